/- Contracts of functions of the program, each walked once. No condition beyond those that each theorem states. -/
import Derived.Test.YtidnomjiienllaaGreatDoorKb
import Derived.Lib.RowBridge
import Derived.Test.YtidnomjiienllaaGreatDoorProg
import Derived.Test.YtidnomjiienllaaGreatDoorLa
set_option linter.unusedSimpArgs false
set_option linter.unusedVariables false
set_option linter.unusedSectionVars false
set_option maxRecDepth 20000
set_option maxHeartbeats 8000000
namespace Px
open Go Go.RowKit Go.Proofs Go.Proofs.Tryz
def srtL (xs:List Int):List Int:=xs.mergeSort λx y=>decide (x<=y)
theorem nac(xs:List Int):(srtL xs).length=xs.length:=List.length_mergeSort _
variable {ops:Array Oper} {C:Cx} {E:Env} {G:Gh} {H H':Heap} {d:Int} {kv:List (Int×Int)} {D:List Deferred} {xs:List Int} {Fin Pre:List Int->Prop} {ms:List Mk} {js:List Nat} {sp:List Value} {L:List World} {rec:Loop} {N N' b i j k:Nat} {RO:Nat->Prop} {o:Obj} {W w':World}
theorem srtI(hl:xs.length<=1000000){cap t:Nat}(hfit:(Rw.row b cap sp).Fit 1 xs)(h:W.heap[b]? =some (rwO encZ t xs sp)):Calls prog 210 #[.slice (some ⟨b,0,none⟩) xs.length cap] W (λe w'=>∃sp',e= .returned ((λ_=>.tuple #[]) (Rw.row b cap sp'))/\Keep (· =b) W w'/\(Rw.row b cap sp').Fit 1 (srtL xs)/\w'.heap[b]? =some (rwO encZ t (srtL xs) sp')):=by
 have hc:=Any.slices_Sort_int Tryz.laySort b 0 cap xs W (holdsI h) (ago.1 h).1 zG;change Calls prog 210 _ _ _ at hc;refine hc.mono ?_;rintro e w' ⟨rfl,n,os,rfl⟩;obtain⟨h1,h2⟩:=putI (n:=n) (os:=os) h (nac xs);exact⟨sp,rfl,h1,by simp only[Rw.Fit,nac];exact hfit,h2⟩
theorem srtI_nil(W:World):Calls prog 210 #[.slice none 0 0] W (λe w'=>e= .returned (.tuple #[])/\Below W.heap.size W w'):=by
 have hc:=Any.slices_Sort_int_none Tryz.laySort none 0 W;change Calls prog 210 _ _ _ at hc;refine hc.mono ?_;rintro e w' ⟨rfl,h⟩;refine⟨rfl,?_⟩;first
  |(obtain⟨n,rfl⟩:=h;exact nub W _)
  |(subst h;exact Below.refl _ _)
theorem compI(hl:xs.length<=1000000){cap t:Nat}(hfit:(Rw.row b cap sp).Fit 1 xs)(h:W.heap[b]? =some (rwO encZ t xs sp)):Calls prog 211 #[.slice (some ⟨b,0,none⟩) xs.length cap] W (λe w'=>∃sp',e= .returned ((λr=>r.val (Go.Lib.compact xs).length) (Rw.row b cap sp'))/\Keep (· =b) W w'/\(Rw.row b cap sp').Fit 1 (Go.Lib.compact xs)/\w'.heap[b]? =some (rwO encZ t (Go.Lib.compact xs) sp')):=by
 obtain⟨f1,f2⟩:=hfit;have hc:=Any.slices_Compact_int Tryz.layCompact b 0 cap xs W (holdsI h) zG f1;change Calls prog 211 _ _ _ at hc;refine hc.mono ?_;rintro e w' ⟨rfl,q,rfl⟩;have hle:=Go.Lib.compact_length_le xs;obtain⟨h1,h2⟩:=putI (n:=q) (os:=#[]) (ys:=Go.Lib.compact xs++List.replicate (xs.length-(Go.Lib.compact xs).length) 0) h zGb;rw[Go.Sort.grow_empty]at h1 h2;refine⟨flt encZ (List.replicate (xs.length-(Go.Lib.compact xs).length) 0)++sp,rfl,h1,⟨by omega,?_⟩,?_⟩
 ·rw[aHo,n0 nB,List.length_replicate,f2];omega
 rw[h2];simp only[rwO,nbe,a2o]
theorem nbm(h:Rw.nil.Fit 1 xs)(W:World):Calls prog 210 #[Rw.nil.val xs.length] W (λe w'=>e= .returned ((λ_=>.tuple #[]) Rw.nil)/\srtL xs=[]/\Below W.heap.size W w'):=
 (srtI_nil W).mono λe w' ⟨h1,h2⟩=>⟨h1,by have:xs=[]:=h;subst this;simp[srtL],h2⟩
theorem nFn(W:World):Calls prog 211 #[.slice none 0 0] W (λe w'=>e= .returned (.slice none 0 0)/\Below W.heap.size W w'):=by
 have hc:=Any.slices_Compact_int_empty Tryz.layCompact none 0 W;change Calls prog 211 _ _ _ at hc;refine hc.mono ?_;rintro e w' ⟨rfl,rfl⟩;exact⟨rfl,Below.refl _ _⟩
theorem cmp_nil(h:Rw.nil.Fit 1 xs)(W:World):Calls prog 211 #[Rw.nil.val xs.length] W (λe w'=>e= .returned ((λr=>r.val (Go.Lib.compact xs).length) Rw.nil)/\Go.Lib.compact xs=[]/\Below W.heap.size W w'):=
 (nFn W).mono λe w' ⟨h1,h2⟩=>⟨h1,by have:xs=[]:=h;subst this;rfl,h2⟩
structure Nd where
 at_:Int
 pub:Int
def ndE (n:Nd):List Value:=[.int .i64 n.at_,.int .i64 n.pub]
def ndA (n:Nd):Array Value:=#[.int .i64 n.at_,.int .i64 n.pub]
theorem n1e(n:Nd):(ndE n).length=2:=rfl
theorem ndE_one(n:Nd):∀u∈ndE n,u.oneCell'=true:=by intro u hu;simp[ndE]at hu;rcases hu with rfl|rfl<;>rfl
def lfL (ns:List Nd):List Int:=(ns.filter λn=>decide (512<=n.at_/\n.at_<=1023)).map λn=>n.at_-512
variable {ns:List Nd}
theorem nFi{x:Nd}(hx:ns[j]? =some x)(h1:512<=x.at_)(h2:x.at_<=1023):lfL (ns.take (j+1))=lfL (ns.take j)++[x.at_-512]:=by
 rw[np hx];simp[lfL,h1,h2]
theorem nXe{x:Nd}(hx:ns[j]? =some x)(h:¬(512<=x.at_/\x.at_<=1023)):lfL (ns.take (j+1))=lfL (ns.take j):=by
 rw[np hx];simp only[lfL,List.filter_append];simp[h]
theorem nQi(ns:List Nd)(j:Nat):(lfL (ns.take j)).length<=j:=by
 unfold lfL;rw[aAo];exact aco (aAp _ _) (by rw[anp];omega)
theorem lfL_all(ns:List Nd)(j:Nat)(h:¬j<ns.length):lfL (ns.take j)=lfL ns:=by rw[afp zG]
def memL (ns:List Nd):List Int:=Go.Lib.compact (srtL (lfL ns))
theorem nWk(ns:List Nd):(memL ns).length<=ns.length:=by
 have h1:=Go.Lib.compact_length_le (srtL (lfL ns));have h2:=nQi ns ns.length;rw[axp]at h2;rw[nac]at h1;unfold memL;omega
theorem info359q:prog.info? 359=some Tryz.t359:=by kernel_rfl
theorem nWb(ns:List Nd)(hn:ns.length<=100000)(N:Nat)(a:Option Addr)(cp:Nat)(w:World)(hN:N<=w.heap.size)(hsl:SlAt ndA 2 N w a ns):Calls prog 160 #[.agg #[.slice a ns.length cp]] w (nC w encZ 1 3 (memL ns) id):=by
 have hlA:=nQi ns ns.length;rw[axp]at hlA;refine enter (vs:=[_]) func160 rfl ntmps160 rfl ?_;refine B 3 ?_;intro b1 w1 hb1 ha1 ho1 hm1 hz1;replace ha1:=yb ha1;replace ho1:=yc ho1;refine B 7 ?_;refine rv rfl rfl rfl (RV.re (v':=.slice a ns.length cp) (ldR_r isAgg58 rfl A0 hb1 hm1 trivial rfl) (rfl)) ?_;refine B 5 ?_;refine CJ.loop (α:=Rw×Nat) (λp=>[(1,ptr b1 0),(2,p.1.val (lfL (ns.take p.2)).length),(6,.slice a ns.length cp),(7,.int .i64 (ns.length:Int)),(8,.int .i64 (p.2:Int))]) (λp=>p.1.hp encZ 3 (lfL (ns.take p.2))++[]) (λp=>[w1,w]) (λp=>Gh.no) (λp=>p.2<=ns.length/\p.1.Fr Gh.no [w1,w]/\p.1.Fit 1 (lfL (ns.take p.2))) (λp=>ns.length-p.2) (.nil,0) ⟨a3o _,True.intro,rfl⟩ zR rfl rfl zS ?_;rintro⟨r,j⟩ ⟨hj,hrf,hrfit⟩;dsimp only at hj hrf hrfit ⊢;have hrge:r.ge w1.heap.size:=Rw.ge_of hrf A0;have hlj:=nQi ns j;refine B 6 ?_;refine zCD ?_ ?_
 ·intro hc1;refine B 5 ?_;obtain⟨bo,oo,cs0,to,fr0,rfl,hbo,hcs,hel0⟩:=hsl.get zG;obtain⟨x,hx⟩:=nj ns j zG;refine B 2 ?_;refine rv rfl rfl rfl (RV.re (v':=.agg (ndA x)) (ldRA_r isAgg359 sizeOf359 rfl A1 hcs zO (by simp only[Off,ne,and_true];(repeat' apply And.intro);all_goals first|exact True.intro|exact Rw.off_ge hrge zG) (nk hel0 hx rfl)) (congrArg Value.agg (nl hel0 hx rfl))) ?_;refine allW zeroValue359 rfl rfl ?_;intro b4 ha4 ho4;replace ha4:=yb ha4;replace ho4:=yc ho4;refine z2g ?_;refine B 8 ?_;refine nf (t:=15) rfl (λhc2=>?_) (λhc2=>?_)
  ·replace hc2:=ya hc2;refine B 6 ?_;refine zCD ?_ ?_
   ·intro hc3;refine B 5 ?_;refine zJe ?_;intro b24 ha24 ho24;replace ha24:=yb ha24;replace ho24:=yc ho24;refine apT (r:=r) (xs:=(lfL (ns.take j))) (zs:=[(x.at_-512)]) (enc:=encZ) (m:=1) (H0:=[(b24,.cells #[.int .i64 (x.at_-512)] 3 (0,0)),(b4,.cells (ndA x) 359 (0,0))]) (H1:=[]) zub nDg nB rfl rfl rfl rfl (SrcT.one (z:=x.at_-512) nB nkd underlying32 (Lies.own (i:=0) rfl)) hrfit hrf zS z8b ?_;intro b25 cp25 sp25 hf25 hfit25;replace hf25:=yb hf25;refine zyh ?_;refine zWd ?_;refine PJ.again (Rw.row b25 cp25 sp25,j+1) ⟨by dsimp only;omega,hf25.elim (λh=>Rw.Fr_at hrf h) (λh=>.inr h),by rw[nFi hx zG zG];exact hfit25⟩ z2 ⟨rfl,by rw[nFi hx zG zG];rfl,rfl,rfl,rfl,trivial⟩ (by rw[nFi hx zG zG];rfl) rfl zS
   intro hc3;refine zpg ?_;exact zjj
  replace hc2:=ya hc2;refine B 14 ?_;refine zWd ?_;exact zjj
 intro hc1;refine B 6 ?_;have hall:=lfL_all ns j zG;rw[hall]at hrfit ⊢;refine B 2 ?_;refine n8c (r:=r) (enc:=encZ) (m:=1) (t:=3) (xs:=lfL ns) (ys:=srtL (lfL ns)) (H0:=[]) (H1:=[]) (v:=λ_=>.tuple #[]) rfl call210 rfl rfl rfl (λhr W _=>by subst hr;exact nbm hrfit W) (λb cap sp hr W _ h=>by subst hr;exact srtI zG hrfit h) ?_;intro r2 hfit2 hfr2 hge2 hval2;have hrf2:=hfr2 hrf;have hrge2:=hge2 _ hrge;refine B 5 ?_;refine n8c (r:=r2) (enc:=encZ) (m:=1) (t:=3) (xs:=srtL (lfL ns)) (ys:=memL ns) (H0:=[]) (H1:=[]) (v:=λr=>r.val (memL ns).length) rfl call211 rfl rfl rfl (λhr W _=>by have e:=hval2 (lfL ns).length;rw[<-e];subst hr;rw[<-nac (lfL ns)];exact cmp_nil hfit2 W) (λb cap sp hr W _ h=>by have e:=hval2 (lfL ns).length;rw[<-e];subst hr;rw[<-nac (lfL ns)];exact compI (by rw[nac];omega) hfit2 h) ?_;intro r3 hfit3 hfr3 hge3 hval3;have hrf3:=hfr3 hrf2;have hrge3:=hge3 _ hrge2;refine B 4 ?_;exact nU (H0:=[]) (H1:=[]) (r:=r3) (.inl rfl) results160 (RS.t rfl RS.n) A1 (by rw[asp];exact Rw.over (Rw.ge_of hrf3 A1)) rfl hfit3 (Rw.ge_of hrf3 A1) zS
def ofS (kv:List (Int×Int)) (n:Nd):List (Int×Int):=if(kget kv n.at_).isSome then kv else kput kv n.at_ n.pub
def ofL (ns:List Nd):List (Int×Int):=ns.foldl ofS []
theorem nKk{x:Nd}(hx:ns[j]? =some x):ofL (ns.take (j+1))=ofS (ofL (ns.take j)) x:=by
 rw[np hx];simp[ofL,awp]
theorem nNm{x:Nd}(hx:ns[j]? =some x)(h:(kget (ofL (ns.take j)) x.at_).isSome=false):ofL (ns.take (j+1))=kput (ofL (ns.take j)) x.at_ x.pub:=by
 rw[nKk hx];unfold ofS;rw[if_neg (by rw[h];decide)]
theorem ofL_no{x:Nd}(hx:ns[j]? =some x)(h:(kget (ofL (ns.take j)) x.at_).isSome=true):ofL (ns.take (j+1))=ofL (ns.take j):=by
 rw[nKk hx];unfold ofS;rw[if_pos h]
theorem ofL_all(ns:List Nd)(j:Nat)(h:¬j<ns.length):ofL (ns.take j)=ofL ns:=by rw[afp zG]
theorem nqe{β:Type}(l:List (Int×β))(k:Int)(v:β):(kput l k v).length<=l.length+1:=by
 unfold kput;split<;>simp
theorem nae(ns:List Nd):(ofL ns).length<=ns.length:=by
 have key:∀(l:List Nd) (kv:List (Int×Int)),(l.foldl ofS kv).length<=kv.length+l.length:=by
  intro l;induction l with
  |nil=>intro kv;simp
  |cons n l ih=>
   intro kv;have h1:=ih (ofS kv n);have h2:(ofS kv n).length<=kv.length+1:=by unfold ofS;split;omega;exact nqe _ _ _
   simp only[List.foldl_cons,axo];omega
 simpa[ofL]using key ns []
theorem nBf(ns:List Nd)(hn:ns.length<=100000)(N:Nat)(a:Option Addr)(cp:Nat)(w:World)(hN:N<=w.heap.size)(hsl:SlAt ndA 2 N w a ns):Calls prog 219 #[.agg #[.slice a ns.length cp]] w (RetMp w (Value.int .i64) (ofL ns) id):=by
 refine enter (vs:=[_]) func219 rfl ntmps219 rfl ?_;refine B 3 ?_;intro b1 w1 hb1 ha1 ho1 hm1 hz1;replace ha1:=yb ha1;replace ho1:=yc ho1;refine B 5 ?_;refine mkMV (Value.int .i64) rfl rfl ?_;intro b8 ha8 ho8;replace ha8:=yb ha8;replace ho8:=yc ho8;refine B 7 ?_;refine rv rfl rfl rfl (RV.re (v':=.slice a ns.length cp) (ldR_r isAgg58 rfl A0 hb1 hm1 zF rfl) (rfl)) ?_;refine B 5 ?_;refine CJ.loop (α:=Mp×Nat) (λp=>[(1,ptr b1 0),(3,.map (some b8)),(10,.slice a ns.length cp),(11,.int .i64 (ns.length:Int)),(12,.int .i64 (p.2:Int))]) (λp=>[(b8,p.1.obj (Value.int .i64) (ofL (ns.take p.2)))]) (λp=>[w1,w]) (λp=>Gh.no) (λp=>p.2<=ns.length/\p.1.Ok (ofL (ns.take p.2))) (λp=>ns.length-p.2) (⟨[],0⟩,0) ⟨a3o _,Mp.nil⟩ zR rfl rfl zS ?_;rintro⟨m,j⟩ ⟨hj,hm⟩;dsimp only at hj hm ⊢;refine B 6 ?_;refine zCD ?_ ?_
 ·intro hc1;refine B 5 ?_;obtain⟨bo,oo,cs0,to,fr0,rfl,hbo,hcs,hel0⟩:=hsl.get zG;obtain⟨x,hx⟩:=nj ns j zG;refine B 2 ?_;refine rv rfl rfl rfl (RV.re (v':=.agg (ndA x)) (ldRA_r isAgg359 sizeOf359 rfl A1 hcs zO zEb (nk hel0 hx rfl)) (congrArg Value.agg (nl hel0 hx rfl))) ?_;refine allW zeroValue359 rfl rfl ?_;intro b5 ha5 ho5;replace ha5:=yb ha5;replace ho5:=yc ho5;refine z2g ?_;refine B 7 ?_;refine rv rfl rfl rfl (mget2_r (ev:=(Value.int .i64)) underlying309 underlying3 zeroValue3 hm (Lies.own (i:=1) rfl) rfl rfl) ?_;refine B 13 ?_;refine zCD ?_ ?_
  ·intro hc2;refine B 6 ?_;refine nxf (i:=1) (ev:=(Value.int .i64)) (v:=x.pub) rfl hm underlying309 underlying3 rfl rfl rfl rfl ?_;intro m2 hm2;refine zpg ?_;refine PJ.again (m2,j+1) ⟨by dsimp only;omega,by rw[nNm hx zZ];exact hm2⟩ z2 zR (by rw[nNm hx zZ];rfl) rfl zS
  intro hc2;refine zpg ?_;refine PJ.again (m,j+1) ⟨by dsimp only;omega,by rw[ofL_no hx zZ];exact hm⟩ z2 zR (by rw[ofL_no hx zZ];rfl) rfl zS
 intro hc1;refine B 6 ?_;have hall:=ofL_all ns j zG;rw[hall]at hm ⊢;refine B 6 ?_;exact retMp (i:=0) (.inl rfl) results219 (RS.t rfl RS.n) A1 zmb rfl hm rfl
theorem nCh:∀(n:Nat) (js:List Nat),js.Nodup->(∀j∈js,j<n)->js.length<=n
 |0,js,_,h=>by
  cases js with
  |nil=>simp
  |cons j js=>have:=h j zS;omega
 |n+1,js,hd,h=>by
  have h1:=nCh n (js.erase n) (hd.erase n) (λj hj=>by
   have h2:=h j (List.mem_of_mem_erase hj);have h3:j≠n:=λe=>by subst e;exact absurd hj (by rw[hd.mem_erase_iff];simp)
   omega)
  have h2:=List.length_erase (a:=n) (l:=js);split at h2<;>omega
def nCd {β:Type} (kv:List (Int×β)) (j:Nat):Int:=((kv[j]?).map (·.1)).getD 0
theorem nPm{β:Type}{kv:List (Int×β)}{p:Int×β}(hp:kv[j]? =some p)(js:List Nat):(js++[j]).map (nCd kv)=js.map (nCd kv)++[p.1]:=by simp[nCd,hp]
theorem n1m{β:Type}{kv:List (Int×β)}(hd:js.Nodup)(hl:∀j∈js,j<kv.length)(hall:∀j,j<kv.length->j∈js):(js.map (nCd kv)).Perm (kv.map (·.1)):=by
 have h1:js.Perm (List.range kv.length):=(List.perm_ext_iff_of_nodup hd List.nodup_range).2 λa=>⟨λh=>aRo.2 (hl a h),λh=>hall a (aRo.1 h)⟩;have h2:(List.range kv.length).map (nCd kv)=kv.map (·.1):=by
  apply List.ext_getElem zS;intro i h3 h4;simp only[aAo,List.length_range]at h3;simp[nCd,h3]
 rw[<-h2];exact h1.map _
theorem nIn{p q:List Int}(h:p.Perm q):srtL p=srtL q:=by
 have hs:∀l:List Int,(srtL l).Pairwise (λa b=>(decide (a<=b))=true):=λl=>List.pairwise_mergeSort (λa b c h1 h2=>by simp at *;omega) (λa b=>by simp;omega) l;exact List.Perm.eq_of_pairwise (λa b _ _ h1 h2=>by simp at h1 h2;omega) (hs p) (hs q) (((List.mergeSort_perm p _).trans h).trans (List.mergeSort_perm q _).symm)
theorem nIg{β:Type}{kv:List (Int×β)}{jn:Nat}{pn:Int×β}(hnd:js.Nodup)(hjs:∀j∈js,j<kv.length)(hpn:kv[jn]? =some pn)(hjn:jn∉js):(js++[jn]).Nodup/\(∀j∈js++[jn],j<kv.length)/\js.length+1<=kv.length:=by
 have h1:(js++[jn]).Nodup:=by rw[List.nodup_append];exact⟨hnd,by simp,by intro a ha b hb;simp at hb;subst hb;exact λe=>hjn (e▸ha)⟩
 have h2:∀j∈js++[jn],j<kv.length:=by
  intro j hj;rcases azo.1 hj with hj|hj
  ·exact hjs j hj
  simp at hj;subst hj;exact nz hpn
 exact⟨h1,h2,by simpa using nCh _ _ h1 h2⟩
theorem nDd(b:Nat)(m:Mp)(hm:m.Ok kv)(k:Int)(w:World)(hb:w.heap[b]? =some (m.obj (Value.int .i64) kv)):Calls prog 220 #[.map (some b),.int .i64 k] w (λe w'=>∃m':Mp,e= .returned (.tuple #[])/\Keep (· =b) w w'/\m'.Ok (kdel kv k)/\w'.heap[b]? =some (m'.obj (Value.int .i64) (kdel kv k))):=by
 refine nT (Gh.lent (· =b)) [(b,m.obj (Value.int .i64) kv)] (vs:=[_,_]) func220 rfl ntmps220 rfl (ntd hb) ?_;refine B 3 ?_;refine mdelV (i:=0) (ev:=(Value.int .i64)) rfl rfl hm underlying309 underlying3 rfl rfl rfl ?_;intro m2 hm2;refine B 1 ?_;exact retG (.inr rfl) (rs:=[]) results220 RS.n λW hS=>⟨m2,rfl,hS.baseX A0 (by simp[OverX]),hm2,hS.own _ A0⟩
theorem nUj(mp:Option Nat)(w:World):Calls prog 222 #[.map mp] w (RetX w (λb:Nat=>.func (.func 278) #[] #[ptr b 0]) (λb w1=>w.heap.size<=b/\w1.heap[b]? =some (.cells #[.map mp] 309 (0,0)))):=by
 refine enter (vs:=[_]) func222 rfl ntmps222 rfl ?_;refine B 3 ?_;intro b1 w1 hb1 ha1 ho1 hm1 hz1;replace ha1:=yb ha1;replace ho1:=yc ho1;refine B 10 ?_;refine nE b1 results222 rfl A1 rfl ?_;exact λW hS=>⟨ha1.1,hS.old A0 hb1 hm1 trivial⟩
theorem n1n(mb bx:Nat)(m:Mp)(hm:m.Ok kv)(W:World)(hb1:W.heap[bx]? =some (.cells #[.map (some mb)] 309 (0,0)))(hmb:W.heap[mb]? =some (m.obj (Value.int .i64) kv)):n7b prog 278 [ptr bx 0] encZ (λp=>p.length<=kv.length) (λxs=>xs.Perm (kv.map (·.1))) (λ_=>False) (λk=>k=bx\/k=mb) W:=by
 intro l M I X0 hM hI hX hy h0;have hm1:¬(it2 hM (λ_=>False) (hI [] _)).X bx:=by rintro(h|h);exact(hM _ h).2.2 (.inl rfl);exact h.elim
 have hmm:¬(it2 hM (λ_=>False) (hI [] _)).X mb:=by rintro(h|h);exact(hM _ h).2.2 (.inr rfl);exact h.elim
 have hmbl:=(ago.1 hmb).1;refine zDg ?_;refine B 3 ?_;refine mrng (ev:=(Value.int .i64)) underlying309 (Lies.old A0 hmb hmm trivial) rfl rfl rfl ?_;intro rb harb horb;replace harb:=yb harb;refine B 3 ?_;refine CJ.loop (α:=List Nat×Foot) (λp=>[(0,yv l),(5,ptr rb 0)]) (λp=>[(rb,m.it mb p.1)]) (λp=>[W]) (λp=>it2 hM p.2 (hI (p.1.map (nCd kv)) p.2)) (λp=>p.1.Nodup/\(∀j∈p.1,j<kv.length)/\∀k,p.2 k->W.heap.size<=k) (λp=>kv.length-p.1.length) ([],λ_=>False) ⟨List.nodup_nil,by simp,λ_ h=>h.elim⟩ ⟨rfl,rfl,trivial⟩ rfl rfl zS ?_;rintro⟨js,V⟩ ⟨hnd,hjs,hV⟩;dsimp only at hnd hjs hV ⊢;have hmm:¬(it2 hM V (hI (js.map (nCd kv)) V)).X mb:=by rintro(h|h);exact(hM _ h).2.2 (.inr rfl);have:=hV _ h;omega
 have hln:=nCh kv.length js hnd hjs;refine B 2 ?_;refine mnext (ev:=(Value.int .i64)) (i:=0) rfl hm (Lies.old A0 hmb hmm zab) hjs rfl rfl rfl (λhall=>?_) (λjn pn hpn hjn=>?_)
 ·refine B 9 ?_;exact n2b (.inr rfl) results278 A0 hV (by intro k hk hx;simp only[adp,afo,a0o,aeo,aCo,or_false]at hx;omega) (λA hA=>.inl ⟨_,n1m hnd hjs hall,hA⟩)
 refine B 10 ?_;refine rv rfl rfl rfl (ment_r (ev:=(Value.int .i64)) (i:=0) rfl hm (Lies.old A0 hmb hmm zab) hpn rfl) ?_;refine B 8 ?_;refine yld2 (λV=>hI (js.map (nCd kv)++[pn.1]) V) hX hV zS rfl rfl rfl rfl (λW1 hV1 hI1=>hy (js.map (nCd kv)) (pn.1) V W1 (by have h9:=(nIg hnd hjs hpn hjn).2.2;simp only[aHo,aAo,axo,a1o];omega) hV1 hI1) ?_ ?_
 ·intro V hV;refine B 6 ?_;refine PJ.again (js++[jn],V) ⟨(nIg hnd hjs hpn hjn).1,(nIg hnd hjs hpn hjn).2.1,hV⟩ (by have h9:=(nIg hnd hjs hpn hjn).2.2;simp only[aHo,axo,a1o];omega) ⟨rfl,rfl,trivial⟩ rfl (by dsimp only;rw[nPm hpn]) zS
 intro V hV;refine B 8 ?_;exact n2b (.inl rfl) results278 A0 hV (by intro k hk hx;simp only[adp,afo,a0o,aeo,aCo,or_false]at hx;omega) (λA hA=>.inr hA)
theorem nIl{f:Nat}{cap:List Value}(hent:Ent prog f)(w:World)(hRO:∀k,RO k->k<w.heap.size)(hlen:∀p,Pre p->p.length<=100000)(hit:∀W2,Below w.heap.size w W2->n7b prog f cap encZ Pre Fin (λ_=>False) RO W2):Calls prog 318 #[.slice none 0 0,.func (.func f) #[] cap.toArray] w (λe w'=>∃xs,Fin xs/\nC w encZ 1 3 xs id e w'):=by
 refine n1b Gh.no [] (vs:=[_,_]) func318 rfl ntmps318 rfl (nmc w) ?_;refine B 2 ?_;refine boxW rfl rfl rfl ?_;intro b2 ha2 ho2;replace ha2:=yb ha2;replace ho2:=yc ho2;refine B 10 ?_;refine CJ.range2 (f:=f) (cap:=cap) (α:=Int) (enc:=encZ) (Pre:=Pre) (Fin:=Fin) (RO:=RO) (MI:=λ_=>False) rfl hent (λW W2 hS hB=>hit W2 ((hS.links w A0).below (by simp only[afo,a0o,aeo,aCo,or_false,Gh.no,false_or];omega) |>.trans (hB.mono (hS.links w A0).size))) (λ_ _ _ hk=>hk.elim) (λW hS k hk=>by have h1:=hRO k hk;have h2:=(hS.links w A0).size;exact⟨by omega,by simp only[afo,a0o,aeo,aCo,or_false];omega,λh=>h⟩) (λ_=>rfl) (λpre G' Hc=>G'=Gh.no/\∃r:Rw,r.Fr Gh.no [w]/\r.Fit 1 pre/\Hc=[(b2,.cells #[r.val pre.length] 32 (0,0))]++(r.hp encZ 3 pre++[])) (λ_ _ _=>False) ⟨rfl,.nil,True.intro,rfl,rfl⟩ zI ?_ ?_ ?_
 ·rintro pre x G' Hc l Dk rec W1 M V Wy hrs hrp hpre ⟨rfl,r,hrf,hrfit,rfl⟩ haD hlD hlW haW hlent hsY;simp only[Above]at haD haW;have hrge:r.ge w.heap.size:=Rw.ge_of hrf A0;have hpl:=hlen _ hpre;simp only[aHo,axo,a1o]at hpl;have hrz:∀p∈r.hp encZ 3 pre,M p.1\/V p.1:=λp hp=>hlent.loc.h p zJc;refine B 3 ?_;refine n8b hrs ?_;refine B 4 ?_;refine zJe ?_;intro b10 ha10 ho10;replace ha10:=yb ha10;replace ho10:=yc ho10;refine apT (r:=r) (xs:=pre) (zs:=[x]) (enc:=encZ) (m:=1) (H0:=[(b10,.cells #[.int .i64 x] 3 (0,0)),(b2,.cells #[r.val pre.length] 32 (0,0))]) (H1:=(l,.loop {rec with state:=.busy})::bxD Dk) zub nDg nB rfl rfl rfl rfl (SrcT.one (z:=x) nB nkd underlying32 (Lies.own (i:=0) rfl)) hrfit (Rw.Fr_ext hrz) zS z8b ?_;intro b11 cp11 sp11 hf11 hfit11;replace hf11:=yb hf11;refine stWw (i:=1) rfl sizeOf32 rfl rfl rfl rfl rfl rfl ?_;refine zWh ?_;refine njb (G2:=Gh.no) (Hc2:=[(b2,.cells #[(Rw.row b11 cp11 sp11).val (pre++[x]).length] 32 (0,0))]++((Rw.row b11 cp11 sp11).hp encZ 3 (pre++[x])++[])) hlent hlD ⟨λ_ h=>h,λ_ h=>.inl h,λ_ h=>.inl h,(nwh rfl (hf11.imp id (λh=>h.1))),zMd⟩ (nxb hrs hrp) ?_;exact⟨rfl,.row b11 cp11 sp11,hf11.elim (λh=>Rw.Fr_at hrf h) (λh=>.inr h.2),hfit11,rfl⟩
 ·rintro xs' l Dk rec G' Hc hfin haD hlD ⟨rfl,r,hrf,hrfit,rfl⟩;replace haD:=yb haD;have hrge:r.ge w.heap.size:=Rw.ge_of hrf A0;refine nCg λWd hSd=>?_;have hbn:=nod hSd;refine B 9 ?_;have hq:=λ(k:Nat)=>Rw.mem_ge (enc:=encZ) (t:=3) (xs:=xs') (k:=k) hrge;refine PJ.reH (H':=(b2,.cells #[r.val xs'.length] 32 (0,0))::(r.hp encZ 3 xs'++(l,.loop rec)::bxD Dk)) (by simp[book,Rw.val_cells]) ?_;refine retM (.inl rfl) zS λa W H' hF hS hst hmap=>?_;refine⟨_,by rw[results_tmp results318];exact congrArg (λu=>Result.ok u W) (hF 4 _ rfl),xs',hfin,r,rfl,?_,hrge,hrfit,?_⟩
  ·refine(hS.links w A0).below λk hk hx=>?_;exact zLi
  cases r with
  |nil=>trivial
  |row b cap sp=>exact hS.own _ (hst (b,rwO encZ 3 xs' sp) zqc (hbn _ zqc).1)
 exact zRj
theorem nuj{f:Nat}{cap:List Value}(hent:Ent prog f)(w:World)(hRO:∀k,RO k->k<w.heap.size)(hlen:∀p,Pre p->p.length<=100000)(hit:∀W2,Below w.heap.size w W2->n7b prog f cap encZ Pre Fin (λ_=>False) RO W2):Calls prog 268 #[.func (.func f) #[] cap.toArray] w (λe w'=>∃xs,Fin xs/\nC w encZ 1 3 xs id e w'):=by
 refine enter (vs:=[_]) func268 rfl ntmps268 rfl ?_;refine B 8 ?_;refine nbj (enc:=encZ) (m:=1) (t:=3) (Fin:=Fin) (v:=id) call318 rfl rfl rfl (λW hS=>nIl hent W (λk hk=>ado (hRO k hk) (hS.links w A0).size) hlen (λW2 hB=>hit W2 (((hS.links w A0).below zNc).trans (hB.mono (hS.links w A0).size)))) ?_;intro xs r hfin hrf hrfit;refine B 4 ?_;exact retG (.inl rfl) results268 (RS.t rfl RS.n) λW hS=>⟨xs,hfin,r,rfl,hS.base A0 zFc,Rw.ge_of hrf A0,hrfit,by cases r with|nil=>exact True.intro|row b cap sp=>exact hS.own _ A0⟩
theorem nal{f:Nat}{cap:List Value}(hent:Ent prog f)(w:World)(hRO:∀k,RO k->k<w.heap.size)(hlen:∀p,Pre p->p.length<=100000)(hit:∀W2,Below w.heap.size w W2->n7b prog f cap encZ Pre Fin (λ_=>False) RO W2)(ys:List Int)(hys:∀xs,Fin xs->srtL xs=ys/\xs.length<=100000):Calls prog 221 #[.func (.func f) #[] cap.toArray] w (nC w encZ 1 3 ys id):=by
 refine enter (vs:=[_]) func221 rfl ntmps221 rfl ?_;refine B 8 ?_;refine nbj (enc:=encZ) (m:=1) (t:=3) (Fin:=Fin) (v:=id) call268 rfl rfl rfl (λW hS=>nuj hent W (λk hk=>ado (hRO k hk) (hS.links w A0).size) hlen (λW2 hB=>hit W2 (((hS.links w A0).below zNc).trans (hB.mono (hS.links w A0).size)))) ?_;intro xs r hfin hrf hrfit;obtain⟨hsx,hxl⟩:=hys xs hfin;have hrge:=Rw.ge_of hrf A0;refine B 6 ?_;refine n8c (r:=r) (enc:=encZ) (m:=1) (t:=3) (xs:=xs) (ys:=srtL xs) (H0:=[]) (H1:=[]) (v:=λ_=>.tuple #[]) rfl call210 rfl rfl rfl (λhr W _=>by subst hr;exact nbm hrfit W) (λb cap sp hr W _ h=>by subst hr;exact srtI zG hrfit h) ?_;intro r2 hfit2 hfr2 hge2 hval2;have hrf2:=hfr2 hrf;have hrge2:=hge2 _ hrge;refine B 9 ?_;subst hsx;exact nU (H0:=[]) (H1:=[]) (r:=r2) (.inl rfl) results221 (RS.t rfl RS.n) A0 (by rw[asp];exact Rw.over (Rw.ge_of hrf2 A0)) (by show r.val _=r2.val _;rw[<-hval2,nac]) hfit2 (Rw.ge_of hrf2 A0) zS
theorem nhk(bx:Nat)(W:World)(hb1:W.heap[bx]? =some (.cells #[.map none] 309 (0,0))):n7b prog 278 [ptr bx 0] encZ (λp=>p.length<=0) (λxs=>xs=[]) (λ_=>False) (λk=>k=bx) W:=by
 intro l M I X0 hM hI hX hy h0;have hm1:¬(it2 hM (λ_=>False) (hI [] _)).X bx:=by rintro(h|h);exact(hM _ h).2.2 rfl;exact h.elim
 refine zDg ?_;refine B 3 ?_;refine mrng0 underlying309 rfl rfl rfl ?_;intro rb harb horb;replace harb:=yb harb;refine B 3 ?_;refine CJ.loop (α:=Nat) (λp=>[(0,yv l),(5,ptr rb 0)]) (λp=>[(rb,.mapIter none 0 #[] 0)]) (λp=>[W]) (λp=>it2 hM (λ_=>False) (hI [] _)) (λp=>True) (λp=>0) 0 True.intro ⟨rfl,rfl,trivial⟩ rfl rfl zS ?_;rintro p _;refine B 2 ?_;refine mnext0 (i:=0) rfl rfl rfl rfl ?_;refine B 9 ?_;exact n2b (.inr rfl) results278 A0 (λ_ h=>h.elim) (by intro k hk hx;simp only[afo,a0o,aeo,aCo,or_false]at hx;omega) (λA hA=>.inl ⟨[],rfl,hA⟩)
def npb (kv:List (Int×Int)):List Nd:=(srtL (kv.map (·.1))).map λk=>⟨k,(kget kv k).getD 0⟩
theorem rowTN:RowT prog 58 359 2:=⟨underlying58,Tryz.t359,.agg #[.int .i64 0,.int .i64 0],info359q,rfl,rfl,rfl,by decide⟩
theorem Rw.val_one2(n:Nat)(r:Rw):nO [r.val n]=true:=by cases r<;>rfl
theorem nJm{β:Type}(f:Int->β){x:Int}(hx:xs[j]? =some x):(xs.take (j+1)).map f=(xs.take j).map f++[f x]:=by rw[np hx];simp
theorem gd_int(o:Option Int):(o.map (Value.int .i64)).getD (.int .i64 0)= .int .i64 (o.getD 0):=by cases o<;>rfl
theorem njf(hkl:kv.length<=100000)(mb:Nat)(m:Mp)(hm:m.Ok kv)(w:World)(hmb:w.heap[mb]? =some (m.obj (Value.int .i64) kv)):Calls prog 175 #[.map (some mb)] w (nC w ndE 2 359 (npb kv) (λs=>.agg #[s])):=by
 have hmbl:=(ago.1 hmb).1;have hksl:(srtL (kv.map (·.1))).length=kv.length:=by rw[nac,aAo]
 refine enter (vs:=[_]) func175 rfl ntmps175 rfl ?_;refine B 2 ?_;refine zof ?_;intro b2 ha2 ho2;replace ha2:=yb ha2;replace ho2:=yc ho2;refine B 6 ?_;refine nq (α:=Nat) (v:=λb:Nat=>.func (.func 278) #[] #[ptr b 0]) (Φ:=λ(W:World) (b:Nat) (w1:World)=>W.heap.size<=b/\w1.heap[b]? =some (.cells #[.map (some mb)] 309 (0,0))) call222 rfl rfl rfl (λW hS=>nUj (some mb) W) ?_;rintro Wk bk wk hSk hBk ⟨hbk1,hbk2⟩;try dsimp only at hbk1 hbk2
 have hUk:=hSk.under;replace hUk:=yf hUk;have hbkl:=(ago.1 hbk2).1;have hAk:=hSk.sizes;replace hAk:=yb hAk;have hzk:=hBk.size;refine nX (enc:=encZ) (m:=1) (t:=3) (xs:=srtL (kv.map (·.1))) (v:=id) (first:=[]) (cap:=[]) rfl call221 rfl rfl rfl nB (λW hS=>nal (f:=278) (cap:=[ptr bk 0]) (Pre:=λp=>p.length<=kv.length) (Fin:=λxs=>xs.Perm (kv.map (·.1))) (RO:=λk=>k=bk\/k=mb) call278 W ?_ ?_ ?_ _ ?_) ?_
 ·intro k hk;have h1:=(hS.links wk A0).size;rcases hk with rfl|rfl<;>omega
 ·intro p hp;have:p.length<=kv.length:=hp;omega
 ·intro W2 hB;exact n1n mb bk m hm W2 (by rw[hB.block bk (by have:=(hS.links wk A0).size;omega)];exact hS.old A0 hbk2 zO zab) (by rw[hB.block mb (by have:=(hS.links w A1).size;omega)];exact hS.old A1 hmb zO zab)
 ·intro xs hx;exact⟨nIn hx,by rw[hx.length_eq,aAo];exact hkl⟩
 intro Ws a7 cp7 ws hSs hBs hsl7 hnew7;have hAs:=hSs.sizes;replace hAs:=yb hAs;have hzs:=hBs.size;have hUs:=hSs.under;replace hUs:=yf hUs;refine B 5 ?_;refine CJ.loop (α:=Rw×Nat) (λp=>[(0,.map (some mb)),(2,ptr b2 0),(7,.slice a7 (srtL (kv.map (·.1))).length cp7),(8,.int .i64 ((srtL (kv.map (·.1))).length:Int)),(9,.int .i64 (p.2:Int))]) (λp=>[(b2,.cells #[p.1.val (((srtL (kv.map (·.1))).take p.2).map (λk=>(⟨k,(kget kv k).getD 0⟩:Nd))).length] 60 (0,0))]++(p.1.hp ndE 359 (((srtL (kv.map (·.1))).take p.2).map (λk=>(⟨k,(kget kv k).getD 0⟩:Nd)))++[])) (λp=>[ws,wk,w]) (λp=>Gh.no) (λp=>p.2<=(srtL (kv.map (·.1))).length/\p.1.Fr Gh.no [ws,wk,w]/\p.1.Fit 2 (((srtL (kv.map (·.1))).take p.2).map (λk=>(⟨k,(kget kv k).getD 0⟩:Nd)))) (λp=>(srtL (kv.map (·.1))).length-p.2) (.nil,0) ⟨a3o _,True.intro,rfl⟩ zR rfl rfl zS ?_;rintro⟨r,j⟩ ⟨hj,hrf,hrfit⟩;dsimp only at hj hrf hrfit ⊢;have hrge:r.ge ws.heap.size:=Rw.ge_of hrf A0;refine B 6 ?_;refine zCD ?_ ?_
 ·intro hc1;refine B 5 ?_;obtain⟨bo,oo,cs0,to,fr0,rfl,hbo,hcs,hel0⟩:=hsl7.get zG;obtain⟨x,hx⟩:=nj (srtL (kv.map (·.1))) j zG;have hbn7:=hnew7 _ rfl;dsimp only at hbn7;refine B 2 ?_;refine rv rfl rfl rfl (ldR_r (v:=.int .i64 x) isAgg3 rfl A0 hcs zO z6c (by have:=nF (enc:=λx=>(encZ x).toArray) (n:=1) hel0 hx rfl zI;simpa[encZ]using this)) ?_;refine B 9 ?_;refine rv rfl rfl rfl (RV.re (v':=.int .i64 ((kget kv x).getD 0)) (mget1_r (ev:=(Value.int .i64)) underlying309 underlying3 zeroValue3 hm (Lies.old A2 hmb zO z6c) rfl rfl) (gd_int _)) ?_;refine rv rfl rfl rfl (bldS_r underlying359 zeroValue359 (PlF.c sizeOf3 (PlF.c sizeOf3 (PlF.n))) rfl rfl) ?_;refine bslW underlying58 sizeOf359 zeroValue359 rfl rfl rfl rfl rfl rfl rfl ?_;intro b20 ha20 ho20;replace ha20:=yb ha20;replace ho20:=yc ho20;refine apT (r:=r) (xs:=(((srtL (kv.map (·.1))).take j).map (λk=>(⟨k,(kget kv k).getD 0⟩:Nd)))) (zs:=[(⟨x,(kget kv x).getD 0⟩:Nd)]) (enc:=ndE) (m:=2) (H0:=[(b20,.cells #[.int .i64 x,.int .i64 ((kget kv x).getD 0)] 359 (0,0)),(b2,.cells #[r.val (((srtL (kv.map (·.1))).take j).map (λk=>(⟨k,(kget kv k).getD 0⟩:Nd))).length] 60 (0,0))]) (H1:=[]) zub rowTN n1e rfl rfl rfl rfl (SrcT.one (z:=(⟨x,(kget kv x).getD 0⟩:Nd)) n1e ndE_one underlying58 (Lies.own (i:=0) rfl)) hrfit hrf zS (by simp only[aAo,anp,axo,a1o];omega) ?_
  intro b21 cp21 sp21 hf21 hfit21;replace hf21:=yb hf21;refine B 1 ?_;refine stW (i:=1) rfl sizeOf58 rfl rfl rfl rfl (apo rfl) rfl ?_;refine zpg ?_;refine PJ.again (Rw.row b21 cp21 sp21,j+1) ⟨by dsimp only;omega,hf21.elim (λh=>Rw.Fr_at hrf h) (λh=>.inr h),by rw[nJm (λk=>(⟨k,(kget kv k).getD 0⟩:Nd)) hx];exact hfit21⟩ z2 zR (by rw[nJm (λk=>(⟨k,(kget kv k).getD 0⟩:Nd)) hx];rfl) rfl zS
 intro hc1;refine B 6 ?_;have hall:(srtL (kv.map (·.1))).take j=srtL (kv.map (·.1)):=afp zG;rw[hall]at hrfit ⊢;refine B 2 ?_;refine zCg ?_;refine B 3 ?_;exact nU (H0:=[(b2,.cells #[r.val ((srtL (kv.map (·.1))).map (λk=>(⟨k,(kget kv k).getD 0⟩:Nd))).length] 60 (0,0))]) (H1:=[]) (r:=r) (.inl rfl) results175 (RS.wA (i:=0) rfl isAgg60 sizeOf60 rfl (apo rfl) RS.n) A2 (by simp only[asp,aEo,abp,adp,Over];exact⟨by omega,Rw.over (Rw.ge_of hrf A2)⟩) rfl hrfit (Rw.ge_of hrf A2) (by simp[Value.cells,npb])
theorem nTe(w:World):Calls prog 175 #[.map none] w (nC w ndE 2 359 [] (λs=>.agg #[s])):=by
 refine enter (vs:=[_]) func175 rfl ntmps175 rfl ?_;refine B 2 ?_;refine zof ?_;intro b2 ha2 ho2;replace ha2:=yb ha2;replace ho2:=yc ho2;refine B 6 ?_;refine nq (α:=Nat) (v:=λb:Nat=>.func (.func 278) #[] #[ptr b 0]) (Φ:=λ(W:World) (b:Nat) (w1:World)=>W.heap.size<=b/\w1.heap[b]? =some (.cells #[.map none] 309 (0,0))) call222 rfl rfl rfl (λW hS=>nUj none W) ?_;rintro Wk bk wk hSk hBk ⟨hbk1,hbk2⟩;try dsimp only at hbk1 hbk2
 have hUk:=hSk.under;replace hUk:=yf hUk;have hbkl:=(ago.1 hbk2).1;have hAk:=hSk.sizes;replace hAk:=yb hAk;have hzk:=hBk.size;refine nX (enc:=encZ) (m:=1) (t:=3) (xs:=[]) (v:=id) (first:=[]) (cap:=[]) rfl call221 rfl rfl rfl nB (λW hS=>nal (f:=278) (cap:=[ptr bk 0]) (Pre:=λp=>p.length<=0) (Fin:=λxs=>xs=[]) (RO:=λk=>k=bk) call278 W ?_ ?_ ?_ [] ?_) ?_
 ·intro k hk;have h1:=(hS.links wk A0).size;subst hk;omega
 ·intro p hp;omega
 ·intro W2 hB;exact nhk bk W2 (by rw[hB.block bk (by have:=(hS.links wk A0).size;omega)];exact hS.old A0 hbk2 zO zab)
 ·intro xs hx;exact(by subst hx;exact⟨by simp[srtL],by simp⟩)
 intro Ws a7 cp7 ws hSs hBs hsl7 hnew7;have hAs:=hSs.sizes;replace hAs:=yb hAs;have hzs:=hBs.size;have hUs:=hSs.under;replace hUs:=yf hUs;refine B 5 ?_;refine CJ.loop (α:=Nat) (λp=>[(2,ptr b2 0),(8,.int .i64 0),(9,.int .i64 0)]) (λp=>[(b2,.cells #[.slice none 0 0] 60 (0,0))]) (λp=>[ws,wk,w]) (λp=>Gh.no) (λp=>True) (λp=>0) 0 True.intro zR rfl rfl zS ?_;rintro p _;refine zJh ?_;refine B 12 ?_;refine zif ?_;refine B 3 ?_;exact nU (H0:=[(b2,.cells #[.slice none 0 0] 60 (0,0))]) (H1:=[]) (r:=.nil) (.inl rfl) results175 (RS.wA (i:=0) rfl isAgg60 sizeOf60 rfl (apo rfl) RS.n) A2 zHc rfl rfl True.intro rfl
def usN (kv:List (Int×Bool)) (n:Int):List (Int×Bool):=kput kv n true
def usD (kv:List (Int×Bool)) (d:Int):List (Int×Bool):=(pthL d).foldl usN (kput kv (512+d) true)
def usL (ds:List Int):List (Int×Bool):=ds.foldl usD []
theorem nPk{ds:List Int}(hx:ds[j]? =some d):usL (ds.take (j+1))=usD (usL (ds.take j)) d:=by rw[np hx];simp[usL,awp]
theorem nAk{l:List Int}{n:Int}(hx:l[i]? =some n)(kv:List (Int×Bool)):(l.take (i+1)).foldl usN kv=kput ((l.take i).foldl usN kv) n true:=by rw[np hx];simp[usN,awp]
theorem usI_all(l:List Int)(i:Nat)(h:¬i<l.length)(kv:List (Int×Bool)):(l.take i).foldl usN kv=l.foldl usN kv:=by rw[afp zG]
theorem usL_all(l:List Int)(i:Nat)(h:¬i<l.length):usL (l.take i)=usL l:=by rw[afp zG]
def NdOk (ns:List Nd) (i:Nat) (x:Nd):Prop:=1<=x.at_/\x.at_<=1023/\(∀y,0<i->ns[i-1]? =some y->y.at_<x.at_)/\GOk x.pub/\kget (usL (memL ns)) x.at_=some true
def TrOk (ns:List Nd):Prop:=∀i x,ns[i]? =some x->NdOk ns i x
def TrTo (ns:List Nd) (j:Nat):Prop:=∀i x,i<j->ns[i]? =some x->NdOk ns i x
open Classical in
noncomputable def trI (ns:List Nd):Int:=if TrOk ns then 0 else 210
theorem trI_ok(h:TrOk ns):trI ns=0:=by unfold trI;rw[if_pos h]
theorem trI_iff:trI ns=0↔TrOk ns:=by unfold trI;split<;>simp_all
theorem nHg(ns:List Nd):trI ns=0\/trI ns=210:=by unfold trI;split<;>simp
theorem n6c(h:TrTo ns j)(hj:¬j<ns.length):0=trI ns:=by
 rw[trI_ok];exact λi x hx=>h i x (by have:=nz hx;omega) hx
theorem nG{x:Nd}(hx:ns[j]? =some x)(h:¬NdOk ns j x):210=trI ns:=by
 unfold trI;rw[if_neg];exact λg=>h (g j x hx)
theorem TrTo.next{x:Nd}(h:TrTo ns j)(hx:ns[j]? =some x)(hk:NdOk ns j x):TrTo ns (j+1):=by
 exact z4j
theorem nQl{zs:List Int}{x:Int}(h:x∈Go.Lib.compact zs):x∈zs:=by
 unfold Go.Lib.compact Go.Lib.compactUpTo at h;obtain⟨i,hi,rfl⟩:=ano.1 h;have hl:=aRo.1 (aMo.1 hi).1;rw[getElem!_pos zs.toArray i zdc];simp
theorem memL_ok(h:d∈memL ns):DvOk d:=by
 have h1:=nQl h;have h2:=(List.mergeSort_perm (lfL ns) _).mem_iff.1 h1;obtain⟨n,hn,rfl⟩:=ano.1 h2;have h3:=(aMo.1 hn).2;simp only[decide_eq_true_eq]at h3;exact⟨by omega,by omega⟩
theorem nLk(d:Int):(pthL d).length<=(512+d).toNat:=by unfold pthL;rw[aAo];exact n8l _
theorem nJi(o:Option Bool):(o.map Value.bool).getD (.bool false)= .bool (o.getD false):=by cases o<;>rfl
theorem nPc(o:Option Bool):o.getD false=true↔o=some true:=by cases o with|none=>simp|some b=>cases b<;>simp
theorem nHb(ns:List Nd)(hn:ns.length<=100000)(N:Nat)(a:Option Addr)(cp:Nat)(w:World)(hN:N<=w.heap.size)(hsl:SlAt ndA 2 N w a ns):Calls prog 156 #[.agg #[.slice a ns.length cp]] w (Ret w (.int .i64 (trI ns))):=by
 have hml:=nWk ns;refine enter (vs:=[_]) func156 rfl ntmps156 rfl ?_;refine B 3 ?_;intro b1 w1 hb1 ha1 ho1 hm1 hz1;replace ha1:=yb ha1;replace ho1:=yc ho1;refine B 5 ?_;refine mkMV Value.bool rfl rfl ?_;intro b12 ha12 ho12;replace ha12:=yb ha12;replace ho12:=yc ho12;refine B 6 ?_;refine rv rfl rfl rfl (RV.re (v':=.agg #[.slice a ns.length cp]) (ldRAw_r isAgg60 sizeOf60 rfl A0 hb1 hm1 zF rfl) (rfl)) ?_;refine nX (enc:=encZ) (m:=1) (t:=3) (xs:=memL ns) (v:=id) (first:=[]) (cap:=[]) rfl call160 rfl rfl rfl nB (λW hS=>nWb ns hn N a cp W (aco hN (hS.links w A1).size) (hsl.up (abo _) (hS.same A1 hN zN z6))) ?_;intro Wm am cpm wm hSm hBm hslm hnewm;have hAsm:=hSm.sizes;replace hAsm:=yb hAsm;have hzm:=hBm.size;have hUsm:=hSm.under;replace hUsm:=yf hUsm;refine B 5 ?_;refine CJ.loop (α:=Mp×Nat) (λp=>[(1,ptr b1 0),(3,.map (some b12)),(14,.slice am (memL ns).length cpm),(15,.int .i64 ((memL ns).length:Int)),(16,.int .i64 (p.2:Int))]) (λp=>[(b12,p.1.obj Value.bool (usL ((memL ns).take p.2)))]) (λp=>[wm,w1,w]) (λp=>Gh.no) (λp=>p.2<=(memL ns).length/\p.1.Ok (usL ((memL ns).take p.2))) (λp=>(memL ns).length-p.2) (⟨[],0⟩,0) ⟨a3o _,Mp.nil⟩ zR rfl rfl zS ?_;rintro⟨m,j⟩ ⟨hj,hm⟩;dsimp only at hj hm ⊢;refine B 6 ?_;refine zCD ?_ ?_
 ·intro hc1;refine B 5 ?_;obtain⟨bm,om,csm,tm,frm,rfl,hbm,hcsm,helm⟩:=hslm.get zG;have hbn:=hnewm _ rfl;dsimp only at hbn;obtain⟨d,hx⟩:=nj (memL ns) j zG;have hd:=memL_ok (ajo hx);have hd1:=hd.1;have hd2:=hd.2;have hpl:=nLk d;refine B 2 ?_;refine rv rfl rfl rfl (ldR_r (v:=.int .i64 d) isAgg3 rfl A0 hcsm zO zEb (by have:=nF (enc:=λx=>(encZ x).toArray) (n:=1) helm hx rfl zI;simpa[encZ]using this)) ?_;refine B 6 ?_;refine z5e ?_;intro Wp ap cpp wp hSp hBp hslp hnewp;have hAsp:=hSp.sizes;replace hAsp:=yb hAsp;have hzp:=hBp.size;have hUsp:=hSp.under;replace hUsp:=yf hUsp;refine B 12 ?_;refine nxf (i:=0) (ev:=Value.bool) (v:=true) rfl hm underlying280 underlying3 rfl rfl rfl rfl ?_;intro m2 hm2;refine B 10 ?_;refine CJ.loop (α:=Mp×Nat) (λp=>[(1,ptr b1 0),(3,.map (some b12)),(14,.slice (some ⟨bm,om,none⟩) (memL ns).length cpm),(15,.int .i64 ((memL ns).length:Int)),(16,.int .i64 (j:Int)),(28,.slice ap (pthL d).length cpp),(29,.int .i64 ((pthL d).length:Int)),(30,.int .i64 (p.2:Int))]) (λp=>[(b12,p.1.obj Value.bool (((pthL d).take p.2).foldl usN (kput (usL ((memL ns).take j)) (512+d) true)))]) (λp=>[wp,wm,w1,w]) (λp=>Gh.no) (λp=>p.2<=(pthL d).length/\p.1.Ok (((pthL d).take p.2).foldl usN (kput (usL ((memL ns).take j)) (512+d) true))) (λp=>(pthL d).length-p.2) (m2,0) ⟨a3o _,hm2⟩ zR rfl rfl zS ?_
  rintro⟨mi,i⟩ ⟨hi,hmi⟩;dsimp only at hi hmi ⊢;refine B 6 ?_;refine zCD ?_ ?_
  ·intro hc2;refine B 5 ?_;obtain⟨bq,oq,csq,tq,frq,rfl,hbq,hcsq,helq⟩:=hslp.get zG;have hbnp:=hnewp _ rfl;dsimp only at hbnp;obtain⟨n,hy⟩:=nj (pthL d) i zG;refine B 2 ?_;refine rv rfl rfl rfl (ldR_r (v:=.int .i64 n) isAgg3 rfl A0 hcsq zO zEb zid) ?_;refine B 6 ?_;refine nxf (i:=0) (ev:=Value.bool) (v:=true) rfl hmi underlying280 underlying3 rfl rfl rfl rfl ?_;intro m3 hm3;refine B 7 ?_;refine PJ.again (m3,i+1) ⟨by dsimp only;omega,by rw[nAk hy];exact hm3⟩ z2 zR (by rw[nAk hy];rfl) rfl zS
  intro hc2;refine B 6 ?_;have eD:((pthL d).take i).foldl usN (kput (usL ((memL ns).take j)) (512+d) true)=usD (usL ((memL ns).take j)) d:=by rw[usI_all _ _ zG];rfl
  rw[eD]at hmi ⊢;refine B 4 ?_;refine PJ.again (mi,j+1) ⟨by dsimp only;omega,by rw[nPk hx];exact hmi⟩ z2 zR (by rw[nPk hx]) rfl zS
 intro hc1;refine B 7 ?_;have hall:=usL_all (memL ns) j zG;rw[hall]at hm ⊢;refine B 2 ?_;refine rv rfl rfl rfl (RV.re (v':=.slice a ns.length cp) (ldR_r isAgg58 rfl A1 hb1 hm1 zF rfl) (rfl)) ?_;refine B 5 ?_;refine CJ.loop (α:=Nat) (λj=>[(1,ptr b1 0),(3,.map (some b12)),(39,.slice a ns.length cp),(40,.int .i64 (ns.length:Int)),(41,.int .i64 (j:Int))]) (λj=>[(b12,m.obj Value.bool (usL (memL ns)))]) (λj=>[wm,w1,w]) (λj=>Gh.no) (λj=>j<=ns.length/\TrTo ns j) (λj=>ns.length-j) 0 ⟨a3o _,λi x hi=>absurd hi zG⟩ zR rfl rfl zS ?_;rintro j ⟨hj,hto⟩;refine B 6 ?_;refine zCD ?_ ?_
 ·intro hc3;refine B 5 ?_;obtain⟨bo,oo,cs0,to,fr0,rfl,hbo,hcs,hel0⟩:=hsl.get zG;obtain⟨x,hx⟩:=nj ns j zG;refine B 3 ?_;refine rv rfl rfl rfl (RV.re (v':=.agg (ndA x)) (ldRA_r isAgg359 sizeOf359 rfl A2 hcs zO zEb (nk hel0 hx rfl)) (congrArg Value.agg (nl hel0 hx rfl))) ?_;refine allW zeroValue359 rfl rfl ?_;intro b11 ha11 ho11;replace ha11:=yb ha11;replace ho11:=yc ho11;refine B 1 ?_;refine z2g ?_;refine B 3 ?_;by_cases h1:x.at_<1
  ·refine zne ?_;refine nw 34 ((.det [] _)::(.det [0] _)::(.det [1] _)::(.det [2] _)::(.det [3] undef)::(.det [3,4] undef)::(.det [3,5] undef)::(.det [3,6] _)::(.det [7] _)::(.det [8] undef)::(.det [8,9] undef)::(.det [8,10] undef)::(.det [11] undef)::(.det [11,12] undef)::(.det [11] undef)::(.det [11,14] undef)::(.det [11] undef)::(.det [11,16] undef)::(.det [11,15,17] undef)::(.det [11,18] undef)::(.det [11,19] undef)::(.det [11,13,20] undef)::(.det [8,11,21] undef)::(.det [8,22] _)::(.det [23] _)::(.det [24] undef)::(.det [24,25] undef)::(.det [24,26] undef)::(.det [24,27] undef)::(.det [24,28] _)::(.det [29] _)::(.det [30] undef)::(.det [30] undef)::(.det [30,32] undef)::[]) zM (xc zW (xc zT (xc zld (xc zK (xc zJ (xc zJ (xc zJ (xc zfb (xc zK (xc zJ (xc zJ (xc zJ (xc zJ (xc zJ (xc zJ (xc zJ (xc zJ (xc zJ (xc zJ (xc zJ (xc zJ (xc zJ (xc zJ (xc zfb (xc zK (xc zJ (xc zJ (xc zJ (xc zJ (xc zfb (xc zK (xc zJ (xc zJ (xc zJ (xn))))))))))))))))))))))))))))))))))) zM zM zM (λvals=>?_);exact zfk
  by_cases h2:1023<x.at_
  ·refine zne ?_;refine nw 34 ((.det [] _)::(.det [0] _)::(.det [1] _)::(.det [2] _)::(.det [3] _)::(.det [3,4] _)::(.det [3,5] _)::(.det [3,6] _)::(.det [7] _)::(.det [8] undef)::(.det [8,9] undef)::(.det [8,10] undef)::(.det [11] undef)::(.det [11,12] undef)::(.det [11] undef)::(.det [11,14] undef)::(.det [11] undef)::(.det [11,16] undef)::(.det [11,15,17] undef)::(.det [11,18] undef)::(.det [11,19] undef)::(.det [11,13,20] undef)::(.det [8,11,21] undef)::(.det [8,22] _)::(.det [23] _)::(.det [24] undef)::(.det [24,25] undef)::(.det [24,26] undef)::(.det [24,27] undef)::(.det [24,28] _)::(.det [29] _)::(.det [30] undef)::(.det [30] undef)::(.det [30,32] undef)::[]) zM (xc zW (xc zT (xc zYc (xc zK (xc zW (xc zT (xc z1c (xc z1 (xc zK (xc zJ (xc zJ (xc zJ (xc zJ (xc zJ (xc zJ (xc zJ (xc zJ (xc zJ (xc zJ (xc zJ (xc zJ (xc zJ (xc zJ (xc zfb (xc zK (xc zJ (xc zJ (xc zJ (xc zJ (xc zfb (xc zK (xc zJ (xc zJ (xc zJ (xn))))))))))))))))))))))))))))))))))) zM zM zM (λvals=>?_);exact zfk
  obtain⟨e,he⟩:∃e,(if GOk x.pub then(0:Int)else 40)=e:=⟨_,rfl⟩;by_cases h3:j=0/\¬e=0
  ·refine zne ?_;refine nw 34 ((.det [] _)::(.det [0] _)::(.det [1] _)::(.det [2] _)::(.det [3] _)::(.det [3,4] _)::(.det [3,5] _)::(.det [3,6] _)::(.det [7] _)::(.det [8] _)::(.det [8,9] _)::(.det [8,10] _)::(.det [11] undef)::(.det [11,12] undef)::(.det [11] undef)::(.det [11,14] undef)::(.det [11] undef)::(.det [11,16] undef)::(.det [11,15,17] undef)::(.det [11,18] undef)::(.det [11,19] undef)::(.det [11,13,20] undef)::(.det [8,11,21] _)::(.det [8,22] _)::(.det [23] _)::(.det [24] _)::(.det [24,25] _)::(.det [24,26] _)::(.det [24,27] _)::(.det [24,28] _)::(.det [29] _)::(.det [30] undef)::(.det [30] undef)::(.det [30,32] undef)::[]) zM (xc zW (xc zT (xc zYc (xc zK (xc zW (xc zT (xc zZc (xc z1 (xc zK (xc zK (xc zZc (xc zK (xc zJ (xc zJ (xc zJ (xc zJ (xc zJ (xc zJ (xc zJ (xc zJ (xc zJ (xc zJ (xc z1 (xc z1 (xc zK (xc zW (xc zT (xc zHb (xc zHd (xc z1 (xc zK (xc zJ (xc zJ (xc zJ (xn))))))))))))))))))))))))))))))))))) zM zM zM (λvals=>?_);exact zfk
  by_cases h4:j=0
  ·refine zne ?_;refine nw 34 ((.det [] _)::(.det [0] _)::(.det [1] _)::(.det [2] _)::(.det [3] _)::(.det [3,4] _)::(.det [3,5] _)::(.det [3,6] _)::(.det [7] _)::(.det [8] _)::(.det [8,9] _)::(.det [8,10] _)::(.det [11] undef)::(.det [11,12] undef)::(.det [11] undef)::(.det [11,14] undef)::(.det [11] undef)::(.det [11,16] undef)::(.det [11,15,17] undef)::(.det [11,18] undef)::(.det [11,19] undef)::(.det [11,13,20] undef)::(.det [8,11,21] _)::(.det [8,22] _)::(.det [23] _)::(.det [24] _)::(.det [24,25] _)::(.det [24,26] _)::(.det [24,27] _)::(.det [24,28] _)::(.det [29] _)::(.det [30] _)::(.det [30] _)::(.det [30,32] _)::[]) zM (xc zW (xc zT (xc zYc (xc zK (xc zW (xc zT (xc zZc (xc z1 (xc zK (xc zK (xc zZc (xc zK (xc zJ (xc zJ (xc zJ (xc zJ (xc zJ (xc zJ (xc zJ (xc zJ (xc zJ (xc zJ (xc z1 (xc z1 (xc zK (xc zW (xc zT (xc zHb (xc zGd (xc z1 (xc zK (xc zK (xc zW (xc zT (xn))))))))))))))))))))))))))))))))))) zM zM zM (λvals=>?_);refine zSf ?_;refine B 4 ?_;refine zCD ?_ ?_
   ·intro hc4;refine B 11 ?_;exact z4h
   intro hc4;exact z2i
  obtain⟨y,hy⟩:=nj ns (j-1) zG;by_cases h5:x.at_<=y.at_
  ·refine zne ?_;refine nw 34 ((.det [] _)::(.det [0] _)::(.det [1] _)::(.det [2] _)::(.det [3] _)::(.det [3,4] _)::(.det [3,5] _)::(.det [3,6] _)::(.det [7] _)::(.det [8] _)::(.det [8,9] _)::(.det [8,10] _)::(.det [11] _)::(.det [11,12] _)::(.det [11] _)::(.det [11,14] _)::(.det [11] _)::(.det [11,16] _)::(.det [11,15,17] _)::(.det [11,18] _)::(.det [11,19] _)::(.det [11,13,20] _)::(.det [8,11,21] _)::(.det [8,22] _)::(.det [23] _)::(.det [24] undef)::(.det [24,25] undef)::(.det [24,26] undef)::(.det [24,27] undef)::(.det [24,28] _)::(.det [29] _)::(.det [30] undef)::(.det [30] undef)::(.det [30,32] undef)::[]) zM (xc zW (xc zT (xc zYc (xc zK (xc zW (xc zT (xc zZc (xc z1 (xc zK (xc zK (xc z1c (xc zK (xc zW (xc zT (xc zkc (xc zgd (xc zK (xc z5c (xc zqd (xc zW (xc zbd (xc (by exact λvals=>X.val rfl rfl (RV.re (v':=.bool true) (leq_r rfl rfl) (congrArg Value.bool (decide_eq_true zG))) (λ_ _=>rfl)) (xc zfb (xc z1 (xc zK (xc zJ (xc zJ (xc zJ (xc zJ (xc zfb (xc zK (xc zJ (xc zJ (xc zJ (xn))))))))))))))))))))))))))))))))))) zM zM zM (λvals=>?_);exact zfk
  by_cases h6:¬e=0
  ·refine zne ?_;refine nw 34 ((.det [] _)::(.det [0] _)::(.det [1] _)::(.det [2] _)::(.det [3] _)::(.det [3,4] _)::(.det [3,5] _)::(.det [3,6] _)::(.det [7] _)::(.det [8] _)::(.det [8,9] _)::(.det [8,10] _)::(.det [11] _)::(.det [11,12] _)::(.det [11] _)::(.det [11,14] _)::(.det [11] _)::(.det [11,16] _)::(.det [11,15,17] _)::(.det [11,18] _)::(.det [11,19] _)::(.det [11,13,20] _)::(.det [8,11,21] _)::(.det [8,22] _)::(.det [23] _)::(.det [24] _)::(.det [24,25] _)::(.det [24,26] _)::(.det [24,27] _)::(.det [24,28] _)::(.det [29] _)::(.det [30] undef)::(.det [30] undef)::(.det [30,32] undef)::[]) zM (xc zW (xc zT (xc zYc (xc zK (xc zW (xc zT (xc zZc (xc z1 (xc zK (xc zK (xc z1c (xc zK (xc zW (xc zT (xc zkc (xc zgd (xc zK (xc z5c (xc zqd (xc zW (xc zbd (xc zDd (xc zfb (xc z1 (xc zK (xc zW (xc zT (xc zHb (xc zHd (xc z1 (xc zK (xc zJ (xc zJ (xc zJ (xn))))))))))))))))))))))))))))))))))) zM zM zM (λvals=>?_);exact zfk
  refine zne ?_;refine nw 34 ((.det [] _)::(.det [0] _)::(.det [1] _)::(.det [2] _)::(.det [3] _)::(.det [3,4] _)::(.det [3,5] _)::(.det [3,6] _)::(.det [7] _)::(.det [8] _)::(.det [8,9] _)::(.det [8,10] _)::(.det [11] _)::(.det [11,12] _)::(.det [11] _)::(.det [11,14] _)::(.det [11] _)::(.det [11,16] _)::(.det [11,15,17] _)::(.det [11,18] _)::(.det [11,19] _)::(.det [11,13,20] _)::(.det [8,11,21] _)::(.det [8,22] _)::(.det [23] _)::(.det [24] _)::(.det [24,25] _)::(.det [24,26] _)::(.det [24,27] _)::(.det [24,28] _)::(.det [29] _)::(.det [30] _)::(.det [30] _)::(.det [30,32] _)::[]) zM (xc zW (xc zT (xc zYc (xc zK (xc zW (xc zT (xc zZc (xc z1 (xc zK (xc zK (xc z1c (xc zK (xc zW (xc zT (xc zkc (xc zgd (xc zK (xc z5c (xc zqd (xc zW (xc zbd (xc zDd (xc zfb (xc z1 (xc zK (xc zW (xc zT (xc zHb (xc zGd (xc z1 (xc zK (xc zK (xc zW (xc zT (xn))))))))))))))))))))))))))))))))))) zM zM zM (λvals=>?_);refine zSf ?_;refine B 4 ?_;refine zCD ?_ ?_
  ·intro hc5;refine B 11 ?_;exact z4h
  intro hc5;exact z2i
 intro hc3;refine B 11 ?_;exact z4h
def delF (kv:List (Int×Int)) (n:Int):List (Int×Int):=kdel kv n
def chL (kv:List (Int×Int)) (d:Int):List (Int×Int):=(pthL d).foldl delF (delF kv (512+d))
theorem nsf{l:List Int}{n:Int}(hx:l[i]? =some n)(kv:List (Int×Int)):(l.take (i+1)).foldl delF kv=kdel ((l.take i).foldl delF kv) n:=by rw[np hx];simp[delF,awp]
theorem ngm{l:List Int}(h:¬i<l.length)(kv:List (Int×Int)):(l.take i).foldl delF kv=l.foldl delF kv:=by rw[afp zG]
theorem n4e(kv:List (Int×Int))(d:Int):(chL kv d).length<=kv.length:=by
 have key:∀(l:List Int) (kv:List (Int×Int)),(l.foldl delF kv).length<=kv.length:=by
  intro l;induction l with
  |nil=>intro kv;exact abo _
  |cons n l ih=>intro kv;exact aco (ih _) (nhh kv n).length_le
 exact aco (key _ _) (nhh kv _).length_le
theorem nkg(kv:List (Int×Int)):(npb kv).length=kv.length:=by unfold npb;rw[aAo,nac,aAo]
theorem nvf(ns:List Nd)(hn:ns.length<=100000)(N:Nat)(a:Option Addr)(cp:Nat)(w:World)(hN:N<=w.heap.size)(hsl:SlAt ndA 2 N w a ns)(htr:trI ns=210)(d:Int)(mem:Bool):Calls prog 173 #[.agg #[.slice a ns.length cp],.int .i64 d,.bool mem] w (Ret w (.tuple #[.map none,.slice none 0 0,.int .i64 210])):=by
 refine zih ?_;refine B 3 ?_;intro b3 w3 hb3 ha3 ho3 hm3 hz3;replace ha3:=yb ha3;replace ho3:=yc ho3;refine B 8 ?_;refine zEe ?_;refine zYf ?_;refine B 6 ?_;refine zxe ?_;refine B 13 ?_;exact retO (.inl rfl) results173 (RS.t rfl (RS.t rfl (RS.t rfl RS.n))) A1 trivial rfl
theorem nTj(ns:List Nd)(hn:ns.length<=100000)(N:Nat)(a:Option Addr)(cp:Nat)(w:World)(hN:N<=w.heap.size)(hsl:SlAt ndA 2 N w a ns)(htr:trI ns=0)(d:Int)(hd:DvOk d)(hno:kget (ofL ns) (512+d)=none):Calls prog 173 #[.agg #[.slice a ns.length cp],.int .i64 d,.bool true] w (Ret w (.tuple #[.map none,.slice none 0 0,.int .i64 200])):=by
 have hd1:=hd.1;have hd2:=hd.2;refine zih ?_;refine B 3 ?_;intro b3 w3 hb3 ha3 ho3 hm3 hz3;replace ha3:=yb ha3;replace ho3:=yc ho3;refine zLh ?_;intro bf m haf hof hm;replace haf:=yb haf;refine B 9 ?_;refine zFg ?_;refine zTh ?_;refine B 5 ?_;refine rv rfl rfl rfl (RV.re (v':=.bool true) (notB_r rfl) (by rw[hno];rfl)) ?_;refine B 14 ?_;exact retO (.inl rfl) results173 (RS.t rfl (RS.t rfl (RS.t rfl RS.n))) A1 zmb rfl
theorem nKe(ns:List Nd)(hn:ns.length<=100000)(N:Nat)(a:Option Addr)(cp:Nat)(w:World)(hN:N<=w.heap.size)(hsl:SlAt ndA 2 N w a ns)(htr:trI ns=0)(d:Int)(hd:DvOk d)(mem:Bool)(hmem:mem=true->(kget (ofL ns) (512+d)).isSome=true):Calls prog 173 #[.agg #[.slice a ns.length cp],.int .i64 d,.bool mem] w (RetCh w (Value.int .i64) (chL (ofL ns) d) encZ 1 (pthL d) (λmp s=>.tuple #[mp,s,.int .i64 0])):=by
 have hd1:=hd.1;have hd2:=hd.2;have hpl:=nLk d;refine zih ?_;refine B 3 ?_;intro b3 w3 hb3 ha3 ho3 hm3 hz3;replace ha3:=yb ha3;replace ho3:=yc ho3;refine zLh ?_;intro bf m haf hof hm;replace haf:=yb haf;refine B 9 ?_;refine zFg ?_;refine zTh ?_;refine B 4 ?_;refine nf (t:=37) rfl (λhc1=>?_) (λhc1=>?_)
 ·replace hc1:=ya hc1;refine B 1 ?_;refine rv rfl rfl rfl (RV.re (v':=.bool false) (notB_r rfl) (congrArg Value.bool (by rw[hmem zZ];rfl))) ?_;refine B 10 ?_;refine z5e ?_;intro Wp ap cpp wp hSp hBp hslp hnewp;have hAsp:=hSp.sizes;replace hAsp:=yb hAsp;have hzp:=hBp.size;have hUsp:=hSp.under;replace hUsp:=yf hUsp;refine B 9 ?_;refine z7f ?_;refine B 8 ?_;refine zpf ?_;intro m1 hm1;refine B 11 ?_;refine zwe ?_;rintro⟨mi,i⟩ ⟨hi,hmi⟩;dsimp only at hi hmi ⊢;refine B 6 ?_;refine zCD ?_ ?_
  ·intro hc2;exact zBi
  intro hc2;exact zui
 replace hc1:=ya hc1;refine B 12 ?_;refine z5e ?_;intro Wp ap cpp wp hSp hBp hslp hnewp;have hAsp:=hSp.sizes;replace hAsp:=yb hAsp;have hzp:=hBp.size;have hUsp:=hSp.under;replace hUsp:=yf hUsp;refine B 9 ?_;refine z7f ?_;refine B 8 ?_;refine zpf ?_;intro m1 hm1;refine B 11 ?_;refine zwe ?_;rintro⟨mi,i⟩ ⟨hi,hmi⟩;dsimp only at hi hmi ⊢;refine B 6 ?_;refine zCD ?_ ?_
 ·intro hc3;exact zBi
 intro hc3;exact zui
theorem Set_bad(ns:List Nd)(hn:ns.length<=100000)(N:Nat)(a:Option Addr)(cp:Nat)(w:World)(hN:N<=w.heap.size)(hsl:SlAt ndA 2 N w a ns)(htr:trI ns=210)(d p:Int):Calls prog 177 #[.agg #[.slice a ns.length cp],.int .i64 d,.int .i64 p] w (nC w ndE 2 359 [] (λs=>.tuple #[.agg #[s],.int .i64 210])):=by
 refine zhh ?_;refine B 3 ?_;intro b3 w3 hb3 ha3 ho3 hm3 hz3;replace ha3:=yb ha3;replace ho3:=yc ho3;refine zof ?_;intro b6 ha6 ho6;replace ha6:=yb ha6;replace ho6:=yc ho6;refine zZh ?_;refine call call173 rfl rfl rfl (λW hS=>nvf ns hn N a cp W (aco hN (hS.links w A1).size) (hsl.up (abo _) (hS.same A1 hN zN z6)) htr d false) ?_;refine zEh ?_;exact nU (enc:=ndE) (m:=2) (t:=359) (xs:=[]) (H0:=_) (H1:=[]) (r:=.nil) (.inl rfl) results177 (RS.wA (i:=0) rfl isAgg60 sizeOf60 rfl (apo rfl) (RS.t rfl RS.n)) A1 zBc rfl rfl True.intro (asp _).symm
theorem Set_key(ns:List Nd)(hn:ns.length<=100000)(N:Nat)(a:Option Addr)(cp:Nat)(w:World)(hN:N<=w.heap.size)(hsl:SlAt ndA 2 N w a ns)(htr:trI ns=0)(d p:Int)(hd:DvOk d)(hgk:(if GOk p then(0:Int)else 40)=40):Calls prog 177 #[.agg #[.slice a ns.length cp],.int .i64 d,.int .i64 p] w (nC w ndE 2 359 [] (λs=>.tuple #[.agg #[s],.int .i64 50])):=by
 have hd1:=hd.1;have hd2:=hd.2;refine zhh ?_;refine B 3 ?_;intro b3 w3 hb3 ha3 ho3 hm3 hz3;replace ha3:=yb ha3;replace ho3:=yc ho3;refine zof ?_;intro b6 ha6 ho6;replace ha6:=yb ha6;replace ho6:=yc ho6;refine zZh ?_;refine zhf ?_;intro bm m a8 cp8 Wc wc hSc hBc hbmg hbml habm hobm hm hsl8 hne8;replace habm:=yb habm;simp only[Off,and_true]at hobm;have hzc:=hBc.size;have hAc:=hSc.sizes;replace hAc:=yb hAc;have hUc:=hSc.under;replace hUc:=yf hUc;refine B 13 ?_;refine zmg ?_;refine B 9 ?_;refine call call98 rfl rfl rfl (λW hS=>by rw[<-hgk];exact nD p W) (v:=.int .i64 40) ?_;refine zxe ?_;refine B 6 ?_;refine stWw (i:=1) rfl sizeOf60 rfl rfl rfl rfl rfl rfl ?_;refine B 5 ?_;exact nU (enc:=ndE) (m:=2) (t:=359) (xs:=[]) (H0:=_) (H1:=[]) (r:=.nil) (.inl rfl) results177 (RS.wA (i:=1) rfl isAgg60 sizeOf60 rfl (apo rfl) (RS.t rfl RS.n)) A2 zBc rfl rfl True.intro (asp _).symm
theorem Set_ok(ns:List Nd)(hn:ns.length<=100000)(N:Nat)(a:Option Addr)(cp:Nat)(w:World)(hN:N<=w.heap.size)(hsl:SlAt ndA 2 N w a ns)(htr:trI ns=0)(d p:Int)(hd:DvOk d)(hn1:ns.length<100000)(hgk:(if GOk p then(0:Int)else 40)=0):Calls prog 177 #[.agg #[.slice a ns.length cp],.int .i64 d,.int .i64 p] w (nC w ndE 2 359 (npb (kput (chL (ofL ns) d) (512+d) p)) (λs=>.tuple #[.agg #[s],.int .i64 0])):=by
 have hd1:=hd.1;have hd2:=hd.2;refine zhh ?_;refine B 3 ?_;intro b3 w3 hb3 ha3 ho3 hm3 hz3;replace ha3:=yb ha3;replace ho3:=yc ho3;refine zof ?_;intro b6 ha6 ho6;replace ha6:=yb ha6;replace ho6:=yc ho6;refine zZh ?_;refine zhf ?_;intro bm m a8 cp8 Wc wc hSc hBc hbmg hbml habm hobm hm hsl8 hne8;replace habm:=yb habm;simp only[Off,and_true]at hobm;have hzc:=hBc.size;have hAc:=hSc.sizes;replace hAc:=yb hAc;have hUc:=hSc.under;replace hUc:=yf hUc;refine B 13 ?_;refine zmg ?_;refine B 9 ?_;refine call call98 rfl rfl rfl (λW hS=>by rw[<-hgk];exact nD p W) (v:=.int .i64 0) ?_;refine zmg ?_;refine B 11 ?_;refine nxf (i:=0) (ev:=(Value.int .i64)) (v:=p) rfl hm underlying309 underlying3 rfl rfl rfl rfl ?_;intro m2 hm2;refine B 5 ?_;refine n9c (enc:=ndE) (m:=2) (t:=359) (xs:=npb (kput (chL (ofL ns) d) (512+d) p)) (v:=λs=>.agg #[s]) (first:=[]) (cap:=[]) rfl call175 rfl rfl rfl (λW hS=>njf (by have h1:=nqe (chL (ofL ns) d) (512+d) p;have h2:=n4e (ofL ns) d;have h3:=nae ns;omega) bm m2 hm2 W (hS.own _ A0)) ?_;intro r hrf hrfit;refine zyg ?_;exact nU (enc:=ndE) (m:=2) (t:=359) (xs:=npb (kput (chL (ofL ns) d) (512+d) p)) (H0:=[(bm,m2.obj (Value.int .i64) (kput (chL (ofL ns) d) (512+d) p)),(b6,.cells #[r.val (npb (kput (chL (ofL ns) d) (512+d) p)).length] 60 (0,0))]) (H1:=[]) (r:=r) (.inl rfl) results177 (RS.wA (i:=1) rfl isAgg60 sizeOf60 rfl (apo rfl) (RS.t rfl RS.n)) A2 z5b rfl hrfit (Rw.ge_of hrf A2) zwc
theorem n0m(ns:List Nd)(hn:ns.length<=100000)(N:Nat)(a:Option Addr)(cp:Nat)(w:World)(hN:N<=w.heap.size)(hsl:SlAt ndA 2 N w a ns)(htr:trI ns=210)(d:Int):Calls prog 176 #[.agg #[.slice a ns.length cp],.int .i64 d] w (nC w ndE 2 359 [] (λs=>.tuple #[.agg #[s],.int .i64 210])):=by
 refine zUh ?_;intro b2 w2 hb2 ha2 ho2 hm2 hz2;replace ha2:=yb ha2;replace ho2:=yc ho2;refine zof ?_;intro b4 ha4 ho4;replace ha4:=yb ha4;replace ho4:=yc ho4;refine B 5 ?_;refine zGf ?_;refine B 1 ?_;refine zjg ?_;exact zHi
theorem n7n(ns:List Nd)(hn:ns.length<=100000)(N:Nat)(a:Option Addr)(cp:Nat)(w:World)(hN:N<=w.heap.size)(hsl:SlAt ndA 2 N w a ns)(htr:trI ns=0)(d:Int)(hd:DvOk d)(hno:kget (ofL ns) (512+d)=none):Calls prog 176 #[.agg #[.slice a ns.length cp],.int .i64 d] w (nC w ndE 2 359 [] (λs=>.tuple #[.agg #[s],.int .i64 200])):=by
 refine zUh ?_;intro b2 w2 hb2 ha2 ho2 hm2 hz2;replace ha2:=yb ha2;replace ho2:=yc ho2;refine zof ?_;intro b4 ha4 ho4;replace ha4:=yb ha4;replace ho4:=yc ho4;refine B 5 ?_;refine zGf ?_;refine B 1 ?_;refine zgg ?_;exact zHi
theorem nYn(ns:List Nd)(hn:ns.length<=100000)(N:Nat)(a:Option Addr)(cp:Nat)(w:World)(hN:N<=w.heap.size)(hsl:SlAt ndA 2 N w a ns)(htr:trI ns=0)(d:Int)(hd:DvOk d)(hmem:(kget (ofL ns) (512+d)).isSome=true):Calls prog 176 #[.agg #[.slice a ns.length cp],.int .i64 d] w (nC w ndE 2 359 (npb (chL (ofL ns) d)) (λs=>.tuple #[.agg #[s],.int .i64 0])):=by
 have hd1:=hd.1;have hd2:=hd.2;refine zUh ?_;intro b2 w2 hb2 ha2 ho2 hm2 hz2;replace ha2:=yb ha2;replace ho2:=yc ho2;refine zof ?_;intro b4 ha4 ho4;replace ha4:=yb ha4;replace ho4:=yc ho4;refine B 5 ?_;refine zGf ?_;refine B 1 ?_;refine zjf ?_;intro bm m a8 cp8 Wc wc hSc hBc hbmg hbml habm hobm hm hsl8 hne8;replace habm:=yb habm;simp only[Off,and_true]at hobm;have hzc:=hBc.size;have hAc:=hSc.sizes;replace hAc:=yb hAc;have hUc:=hSc.under;replace hUc:=yf hUc;refine B 12 ?_;refine n9c (enc:=ndE) (m:=2) (t:=359) (xs:=npb (chL (ofL ns) d)) (v:=λs=>.agg #[s]) (first:=[]) (cap:=[]) rfl call175 rfl rfl rfl (λW hS=>njf (by have h2:=n4e (ofL ns) d;have h3:=nae ns;omega) bm m hm W (hS.own _ A0)) ?_;intro r hrf hrfit;refine B 1 ?_;refine zyg ?_;exact nU (enc:=ndE) (m:=2) (t:=359) (xs:=npb (chL (ofL ns) d)) (H0:=[(bm,m.obj (Value.int .i64) (chL (ofL ns) d)),(b4,.cells #[r.val (npb (chL (ofL ns) d)).length] 60 (0,0))]) (H1:=[]) (r:=r) (.inl rfl) results176 (RS.wA (i:=1) rfl isAgg60 sizeOf60 rfl (apo rfl) (RS.t rfl RS.n)) A2 z5b rfl hrfit (Rw.ge_of hrf A2) zwc
theorem Renew1(x:Int)(hx:GOk x)(w:World):Calls prog 174 #[.int .i64 x] w (Ret w (.bool false)):=by
 refine enter (vs:=[_]) func174 rfl ntmps174 rfl ?_;refine B 8 ?_;refine call call98 rfl rfl rfl (λW hS=>by have:=nD x W;rw[if_pos hx]at this;exact this) ?_;refine zmg ?_;refine B 4 ?_;refine retV results174 rfl A0 ?_;rfl
theorem nUi(w:World)(l:List Int)(hpok:∀y∈l,GOk y)(hl:l.length<=1000)(NP:Nat)(ap:Option Addr)(cpp:Nat)(hslq:SlAt encI 1 NP w ap l)(hNP:NP<=w.heap.size):Calls prog 46 #[.slice ap l.length cpp,.func (.func 174) #[] #[]] w (Ret w (.int .i64 (-1))):=by
 refine zHg ?_;refine CJ.loop (α:=Nat) (λj=>[(0,.slice ap l.length cpp),(1,.func (.func 174) #[] #[]),(7,.int .i64 (l.length:Int)),(8,.int .i64 (j:Int))]) (λj=>[]) (λj=>[w]) (λj=>Gh.no) (λj=>j<=l.length) (λj=>l.length-j) 0 (a3o _) zR rfl rfl zS ?_;rintro j hj;refine B 6 ?_;refine zCD ?_ ?_
 ·intro hc1;refine B 11 ?_;obtain⟨b0,off0,cs0,t0,fr0,rfl,hbl0,hcs0,hel0⟩:=hslq.get zG;obtain⟨x,hx⟩:=nj l j zG;refine B 5 ?_;refine zVf ?_;refine nSb (f:=174) (cap:=[]) rfl call174 rfl rfl rfl (λW hS=>Renew1 x (hpok x (ajo hx)) W) ?_;refine B 10 ?_;exact zFi
 intro hc1;refine B 11 ?_;refine retV results46 rfl A0 ?_;rfl
theorem n0g(w:World)(l:List Int)(hpok:∀y∈l,GOk y)(hl:l.length<=1000)(NP:Nat)(ap:Option Addr)(cpp:Nat)(hslq:SlAt encI 1 NP w ap l)(hNP:NP<=w.heap.size):Calls prog 20 #[.slice ap l.length cpp,.func (.func 174) #[] #[]] w (Ret w (.bool false)):=by
 refine zsh ?_;refine call call46 rfl rfl rfl (λW hS=>nUi W l hpok hl NP ap cpp (hslq.up (abo _) (hS.same A0 hNP zN trivial)) (aco hNP (hS.links w A0).size)) ?_;refine zPe ?_;refine B 4 ?_;refine retV results20 rfl A0 ?_;rfl
theorem nIi:∀(k n:Nat),2^k<=n->n<2^(k+1)->(upL n).length=k
 |0,n,h1,h2=>by rw[nWg zG];rfl
 |k+1,n,h1,h2=>by
  have e:2^(k+1)=2*2^k:=by rw[Nat.pow_succ,a6o]
  have e2:2^(k+2)=2*2^(k+1):=by rw[Nat.pow_succ,a6o]
  have h0:0<2^k:=Nat.pow_pos zI;rw[nAe zG,axo,nIi k (n/2) zG zG]
theorem nxj(hd:DvOk d):(pthL d).length=9:=by
 have h1:=hd.1;have h2:=hd.2;unfold pthL;rw[aAo];exact nIi 9 _ zG zG
theorem nKn(hd:DvOk d):(cptL d).length=9:=by
 have h1:=hd.1;have h2:=hd.2;unfold cptL;rw[aAo];exact nIi 9 _ zG zG
def putP (kv:List (Int×Int)) (p:Int×Int):List (Int×Int):=kput kv p.1 p.2
def renL (kv:List (Int×Int)) (d:Int) (l:List Int):List (Int×Int):=((pthL d).zip (l.drop 1)).foldl putP (kput (chL kv d) (512+d) ((l[0]?).getD 0))
theorem nsj{z:List (Int×Int)}{n v:Int}(hz:z[i]? =some (n,v))(kv:List (Int×Int)):(z.take (i+1)).foldl putP kv=kput ((z.take i).foldl putP kv) n v:=by rw[np hz];simp[putP,awp]
theorem putP_len(z:List (Int×Int)):∀kv:List (Int×Int),(z.foldl putP kv).length<=kv.length+z.length:=by
 induction z with
 |nil=>intro kv;simp
 |cons p z ih=>
  intro kv;have h1:=ih (putP kv p);have h2:=nqe kv p.1 p.2;simp only[List.foldl_cons,axo];unfold putP at h1 ⊢;omega
theorem nwk(hd:DvOk d)(l:List Int):(renL kv d l).length<=kv.length+10:=by
 unfold renL;have h1:=putP_len ((pthL d).zip (l.drop 1)) (kput (chL kv d) (512+d) ((l[0]?).getD 0));have h2:=nqe (chL kv d) (512+d) ((l[0]?).getD 0);have h3:=n4e kv d;have h4:=nxj hd;rw[List.length_zip]at h1;omega
theorem zip_at{A B:List Int}{n v:Int}(h1:A[i]? =some n)(h2:B[i+1]? =some v):(A.zip (B.drop 1))[i]? =some (n,v):=by
 rw[List.getElem?_zip_eq_some];exact⟨h1,by rw[aGo,Nat.add_comm];exact h2⟩
theorem nUn(ns:List Nd)(hn:ns.length<=100000)(N:Nat)(a:Option Addr)(cp:Nat)(w:World)(hN:N<=w.heap.size)(hsl:SlAt ndA 2 N w a ns)(htr:trI ns=210)(d:Int)(l:List Int)(hpok:∀y∈l,GOk y)(hl:l.length<=1000)(NP:Nat)(ap:Option Addr)(cpp:Nat)(hslq:SlAt encI 1 NP w ap l)(hNP:NP<=w.heap.size):Calls prog 120 #[.agg #[.slice a ns.length cp],.int .i64 d,.slice ap l.length cpp] w (nC w ndE 2 359 [] (λs=>.tuple #[.agg #[s],.int .i64 210])):=by
 refine zjh ?_;refine B 3 ?_;intro b3 w3 hb3 ha3 ho3 hm3 hz3;replace ha3:=yb ha3;replace ho3:=yc ho3;refine zof ?_;intro b6 ha6 ho6;replace ha6:=yb ha6;replace ho6:=yc ho6;refine zZh ?_;refine zjg ?_;exact z3i
theorem Renew_no(ns:List Nd)(hn:ns.length<=100000)(N:Nat)(a:Option Addr)(cp:Nat)(w:World)(hN:N<=w.heap.size)(hsl:SlAt ndA 2 N w a ns)(htr:trI ns=0)(d:Int)(hd:DvOk d)(hno:kget (ofL ns) (512+d)=none)(l:List Int)(hpok:∀y∈l,GOk y)(hl:l.length<=1000)(NP:Nat)(ap:Option Addr)(cpp:Nat)(hslq:SlAt encI 1 NP w ap l)(hNP:NP<=w.heap.size):Calls prog 120 #[.agg #[.slice a ns.length cp],.int .i64 d,.slice ap l.length cpp] w (nC w ndE 2 359 [] (λs=>.tuple #[.agg #[s],.int .i64 200])):=by
 refine zjh ?_;refine B 3 ?_;intro b3 w3 hb3 ha3 ho3 hm3 hz3;replace ha3:=yb ha3;replace ho3:=yc ho3;refine zof ?_;intro b6 ha6 ho6;replace ha6:=yb ha6;replace ho6:=yc ho6;refine zZh ?_;refine zgg ?_;exact z3i
theorem Renew_ok(ns:List Nd)(hn:ns.length<=100000)(N:Nat)(a:Option Addr)(cp:Nat)(w:World)(hN:N<=w.heap.size)(hsl:SlAt ndA 2 N w a ns)(htr:trI ns=0)(d:Int)(hd:DvOk d)(hmem:(kget (ofL ns) (512+d)).isSome=true)(l:List Int)(hpok:∀y∈l,GOk y)(hl:l.length<=1000)(NP:Nat)(ap:Option Addr)(cpp:Nat)(hslq:SlAt encI 1 NP w ap l)(hNP:NP<=w.heap.size)(hl10:l.length=10)(hn1:ns.length<90000):Calls prog 120 #[.agg #[.slice a ns.length cp],.int .i64 d,.slice ap l.length cpp] w (nC w ndE 2 359 (npb (renL (ofL ns) d l)) (λs=>.tuple #[.agg #[s],.int .i64 0])):=by
 have hd1:=hd.1;have hd2:=hd.2;have h9:=nxj hd;obtain⟨b0,off0,cs0,t0,fr0,rfl,hbl0,hcs0,hel0⟩:=hslq.get zG;obtain⟨x0,hx0⟩:=nj l 0 zG;refine zjh ?_;refine B 3 ?_;intro b3 w3 hb3 ha3 ho3 hm3 hz3;replace ha3:=yb ha3;replace ho3:=yc ho3;refine zof ?_;intro b6 ha6 ho6;replace ha6:=yb ha6;replace ho6:=yc ho6;refine zZh ?_;refine zjf ?_;intro bm m a8 cp8 Wc wc hSc hBc hbmg hbml habm hobm hm hsl8 hne8;replace habm:=yb habm;simp only[Off,and_true]at hobm;have hzc:=hBc.size;have hAc:=hSc.sizes;replace hAc:=yb hAc;have hUc:=hSc.under;replace hUc:=yf hUc;refine B 13 ?_;refine zmg ?_;refine B 10 ?_;refine rv rfl rfl rfl (RV.re (v':=.bool false) (neqI_r rfl rfl) (by rw[hl10];rfl)) ?_;refine B 2 ?_;refine call call20 rfl rfl rfl (λW hS=>n0g W l hpok hl NP _ cpp (hslq.up (abo _) (hS.same A2 hNP zN zmb)) (aco hNP (hS.links w A2).size)) ?_;refine B 13 ?_;refine rv rfl rfl rfl (ldR_r (v:=.int .i64 x0) isAgg3 rfl A2 hcs0 zO zab (nF hel0 hx0 rfl zI)) ?_;refine nxf (i:=0) (ev:=(Value.int .i64)) (v:=x0) rfl hm underlying309 underlying3 rfl rfl rfl rfl ?_;intro m2 hm2;refine B 11 ?_;refine CJ.loop (α:=Mp×Nat) (λp=>[(2,.slice (some ⟨b0,off0,none⟩) l.length cpp),(6,ptr b6 0),(8,.map (some bm)),(37,.slice a8 (pthL d).length cp8),(38,.int .i64 ((pthL d).length:Int)),(39,.int .i64 (p.2:Int))]) (λp=>[(bm,p.1.obj (Value.int .i64) ((((pthL d).zip (l.drop 1)).take p.2).foldl putP (kput (chL (ofL ns) d) (512+d) ((l[0]?).getD 0)))),(b6,.cells #[.slice none 0 0] 60 (0,0))]) (λp=>[wc,w3,w]) (λp=>Gh.no) (λp=>p.2<=(pthL d).length/\p.1.Ok ((((pthL d).zip (l.drop 1)).take p.2).foldl putP (kput (chL (ofL ns) d) (512+d) ((l[0]?).getD 0)))) (λp=>(pthL d).length-p.2) (m2,0) ⟨a3o _,by simpa[hx0]using hm2⟩ zR (by simp[hx0,Value.cells]) rfl zS ?_
 rintro⟨mi,i⟩ ⟨hi,hmi⟩;dsimp only at hi hmi ⊢;refine B 6 ?_;refine zCD ?_ ?_
 ·intro hc1;refine B 5 ?_;obtain⟨bq,oq,csq,tq,frq,rfl,hbq,hcsq,helq⟩:=hsl8.get zG;have hbnp:=hne8 _ rfl;dsimp only at hbnp;obtain⟨n,hy⟩:=nj (pthL d) i zG;obtain⟨x,hx⟩:=nj l (i+1) zG;have hz:=zip_at hy hx;refine B 3 ?_;refine zeg ?_;refine B 11 ?_;refine rv rfl rfl rfl (ldR_r (v:=.int .i64 x) isAgg3 rfl A2 hcs0 zO zab (nF hel0 hx zG zI)) ?_;refine nxf (i:=0) (ev:=(Value.int .i64)) (v:=x) rfl hmi underlying309 underlying3 rfl rfl rfl rfl ?_;intro m3 hm3;refine B 7 ?_;refine PJ.again (m3,i+1) ⟨by dsimp only;omega,by rw[nsj hz];exact hm3⟩ z2 zR (by rw[nsj hz];rfl) rfl zS
 intro hc1;refine B 6 ?_;have hzl:((pthL d).zip (l.drop 1)).length=9:=by rw[List.length_zip,aFo];omega
 have hall:((((pthL d).zip (l.drop 1)).take i).foldl putP (kput (chL (ofL ns) d) (512+d) ((l[0]?).getD 0)))=renL (ofL ns) d l:=by rw[afp zG];rfl
 rw[hall]at hmi ⊢
 rename Mp=>m4
 rename Mp.Ok (renL (ofL ns) d l) m4=>hm4
 refine B 2 ?_;refine n9c (enc:=ndE) (m:=2) (t:=359) (xs:=npb (renL (ofL ns) d l)) (v:=λs=>.agg #[s]) (first:=[]) (cap:=[]) rfl call175 rfl rfl rfl (λW hS=>njf (by have h2:=nwk (kv:=ofL ns) hd l;have h3:=nae ns;omega) bm m4 hm4 W (hS.own _ A0)) ?_;intro r hrf hrfit;refine zyg ?_;exact nU (enc:=ndE) (m:=2) (t:=359) (xs:=npb (renL (ofL ns) d l)) (H0:=[(bm,m4.obj (Value.int .i64) (renL (ofL ns) d l)),(b6,.cells #[r.val (npb (renL (ofL ns) d l)).length] 60 (0,0))]) (H1:=[]) (r:=r) (.inl rfl) results120 (RS.wA (i:=1) rfl isAgg60 sizeOf60 rfl (apo rfl) (RS.t rfl RS.n)) A2 z5b rfl hrfit (Rw.ge_of hrf A2) zwc
def resL (kv:List (Int×Int)):Nat->Int->List Int
 |0,_=>[]
 |k+1,n=>if(kget kv n).isSome=true then[n]else if 512<=n then[]else resL kv k (2*n)++resL kv k (2*n+1)
theorem nBh{n:Int}(h:(kget kv n).isSome=true):resL kv (k+1) n=[n]:=by simp[resL,h]
theorem nNj{n:Int}(h:¬(kget kv n).isSome=true)(h2:512<=n):resL kv (k+1) n=[]:=by simp only[resL];rw[if_neg h,if_pos h2]
theorem n9f{n:Int}(h:¬(kget kv n).isSome=true)(h2:¬512<=n):resL kv (k+1) n=resL kv k (2*n)++resL kv k (2*n+1):=by simp only[resL];rw[if_neg h,if_neg h2]
def chP (kv:List (Int×Int)) (k:Nat) (n:Int) (i:Nat):List Int:=(List.range i).flatMap λ(j:Nat)=>resL kv k (2*n+(j:Int))
theorem nqh(kv:List (Int×Int))(k:Nat)(n:Int)(i:Nat):chP kv k n (i+1)=chP kv k n i++resL kv k (2*n+(i:Int)):=by simp[chP,List.range_succ]
theorem n1l(kv:List (Int×Int))(k:Nat)(n:Int):chP kv k n 2=resL kv k (2*n)++resL kv k (2*n+1):=by simp[chP,List.range_succ]
theorem chP_pfx{n:Int}{p:List Int}(hi:i<2)(h:p <+:resL kv k (2*n+(i:Int))):chP kv k n i++p <+:chP kv k n 2:=by
 have h1:chP kv k n i++p <+:chP kv k n (i+1):=by rw[nqh];exact(List.prefix_append_right_inj _).2 h
 refine h1.trans ?_;rcases(show i=0\/i=1 by omega)with rfl|rfl
 ·rw[nqh kv k n 1];exact List.prefix_append _ _
 exact List.prefix_refl _
theorem two_at(n:Int)(i:Nat)(h:i<2):(#[Value.int .i64 (2*n),Value.int .i64 (2*n+1)]:Array Value)[(i:Int).toNat*1]? =some (.int .i64 (2*n+(i:Int))):=by
 rcases(show i=0\/i=1 by omega)with rfl|rfl<;>simp
def nfi (bx by_ mb:Nat):Foot:=λj=>j=bx\/j=by_\/j=mb
def ResI (kv:List (Int×Int)) (k:Nat):Prop:=∀(n:Int) (bx by_ mb:Nat) (m:Mp) (W:World),1<=n->n<1024->1024<=n*2^k->m.Ok kv->W.heap[bx]? =some (.cells #[.map (some mb)] 309 (0,0))->W.heap[by_]? =some (.cells #[.int .i64 n] 3 (0,0))->W.heap[mb]? =some (m.obj (Value.int .i64) kv)->
 n7b prog 319 [ptr bx 0,ptr by_ 0] encZ (Pfx (resL kv k n)) (Is (resL kv k n)) (λ_=>False) (nfi bx by_ mb) W
theorem nAn(kv:List (Int×Int)):ResI kv 0:=λn bx by_ mb m W h1 h2 h3=>by omega
theorem nye(mp:Option Nat)(n:Int)(w:World):Calls prog 269 #[.map mp,.int .i64 n] w (RetX w (λq:Nat×Nat=>.func (.func 319) #[] #[ptr q.1 0,ptr q.2 0]) (λq w1=>w.heap.size<=q.1/\w.heap.size<=q.2/\w1.heap[q.1]? =some (.cells #[.map mp] 309 (0,0))/\w1.heap[q.2]? =some (.cells #[.int .i64 n] 3 (0,0)))):=by
 refine enter (vs:=[_,_]) func269 rfl ntmps269 rfl ?_;refine B 3 ?_;intro b2 w2 hb2 ha2 ho2 hm2 hz2;replace ha2:=yb ha2;replace ho2:=yc ho2;refine B 1 ?_;intro b3 w3 hb3 ha3 ho3 hm3 hz3;replace ha3:=yb ha3;replace ho3:=yc ho3;refine B 10 ?_;refine nE (b2,b3) results269 rfl A2 rfl ?_;try simp only[Above]at ha2 ha3
 have ha23:=ha2.1;have ha33:=ha3.1;try have ha32:=ha3.2.1
 exact λW hS=>⟨by omega,by omega,hS.old A1 hb2 hm2 trivial,hS.old A0 hb3 hm3 trivial⟩
theorem nAj{n l Dk:Nat}(h1:n<=Dk)(h2:n<=l)(h:mkGe n ms):mkGe n ((l,rec,Dk)::ms):=by
 intro q hq;rcases aeo.1 hq with rfl|hq
 ·exact⟨h2,h1⟩
 exact h q hq
theorem nQn{n i:Int}(h:1024<=n*2^(k+1))(hi:0<=i):1024<=(2*n+i)*2^k:=by
 rw[Int.pow_succ]at h;have hp:(0:Int)<2^k:=Int.pow_pos zI;have h9:n*(2^k*2)=(2*n)*2^k:=by rw[Int.mul_comm (2^k) 2,<-Int.mul_assoc,Int.mul_comm n 2]
 have h8:(2*n+i)*2^k=(2*n)*2^k+i*2^k:=Int.add_mul _ _ _;have h7:0<=i*2^k:=Int.mul_nonneg hi zG;omega
theorem CJ.perm{Q:Post}{c:Code}(hp:H.Perm H')(h:CJ C c Q E D G L H'):CJ C c Q E D G L H:=λa W hN hD hF hS=>h a W hN hD hF (hS.perm hp)
theorem mkGe_nil(n:Nat):mkGe n []:=λq hq=>absurd hq zS
theorem nqn(ih:ResI kv k)(n:Int)(bx by_ mb:Nat)(m:Mp)(W:World)(h1:1<=n)(h2:n<1024)(h3:1024<=n*2^(k+1))(hm:m.Ok kv)(hb1:W.heap[bx]? =some (.cells #[.map (some mb)] 309 (0,0)))(hb2:W.heap[by_]? =some (.cells #[.int .i64 n] 3 (0,0)))(hmb:W.heap[mb]? =some (m.obj (Value.int .i64) kv)):n7b prog 319 [ptr bx 0,ptr by_ 0] encZ (Pfx (resL kv (k+1) n)) (Is (resL kv (k+1) n)) (λ_=>False) (nfi bx by_ mb) W:=by
 intro l0 M0 I X0 hM hI hX hy h0;have hm1:¬(it2 hM (λ_=>False) (hI [] _)).X bx:=by rintro(h|h);exact(hM _ h).2.2 (.inl rfl);exact h.elim
 have hm2:¬(it2 hM (λ_=>False) (hI [] _)).X by_:=by rintro(h|h);exact(hM _ h).2.2 (.inr (.inl rfl));exact h.elim
 have hmm:¬(it2 hM (λ_=>False) (hI [] _)).X mb:=by rintro(h|h);exact(hM _ h).2.2 (.inr (.inr rfl));exact h.elim
 have hl1:=(ago.1 hb1).1;have hl2:=(ago.1 hb2).1;have hmbl:=(ago.1 hmb).1;refine n1b (it2 hM (λ_=>False) (hI [] _)) [] (vs:=[_,_,_]) func319 rfl ntmps319 rfl (nMd hM (hI [] _) h0 zS (by simp[Dist]) zS) ?_;refine B 3 ?_;intro b3 w3 hb3 ha3 ho3 hm3 hz3;replace ha3:=yb ha3;replace ho3:=yc ho3;refine B 7 ?_;refine rv rfl rfl rfl (mget2_r (ev:=(Value.int .i64)) underlying309 underlying3 zeroValue3 hm (Lies.old A1 hmb hmm trivial) rfl rfl) ?_;refine B 12 ?_;refine zCD ?_ ?_
 ·intro hc1;refine B 4 ?_;refine yld2 (λV=>hI ([]++[n]) V) hX (λ_ h=>h.elim) A1 rfl rfl rfl rfl (λW1 hV1 hI1=>hy [] n _ W1 (by rw[nBh hc1];exact List.prefix_refl _) hV1 hI1) ?_ ?_
  ·intro V0 hV0;refine B 4 ?_;exact nZe (ms:=([]:List Mk)) (H0:=[]) (.inl rfl) results319 A1 hV0 (by intro j hj hx;simp[mkH]at hx) (λA hA=>.inl ⟨[n],by rw[nBh hc1],hA⟩)
  intro V0 hV0;refine B 4 ?_;exact nZe (ms:=([]:List Mk)) (H0:=[]) (.inl rfl) results319 A1 hV0 (by intro j hj hx;simp[mkH]at hx) (λA hA=>.inr hA)
 intro hc1;refine B 9 ?_;refine zCD ?_ ?_
 ·intro hc2;refine B 2 ?_;exact nZe (ms:=([]:List Mk)) (H0:=[]) (.inl rfl) results319 A1 (λ_ h=>h.elim) (by intro j hj hx;simp[mkH]at hx) (λA hA=>.inl ⟨[],by rw[nNj (by simpa using hc1) zG],hA⟩)
 intro hc2;refine B 9 ?_;refine rv rfl rfl rfl (bldQ_r underlying279 zeroValue279 sizeOf3 rfl rfl rfl rfl) ?_;refine B 4 ?_;refine CJ.loopD (α:=(Nat×List Mk)×Foot) (λp=>mkD p.1.2) (λp=>[(1,ptr bx 0),(2,ptr by_ 0),(3,ptr b3 0),(26,.agg #[.int .i64 (2*n),.int .i64 (2*n+1)]),(27,.int .i64 (p.1.1:Int))]) (λp=>mkH p.1.2) (λp=>[w3,W]) (λp=>it2 hM p.2 (hI (chP kv k n p.1.1) p.2)) (λp=>p.1.1<=2/\mkGe w3.heap.size p.1.2/\∀j,p.2 j->w3.heap.size<=j) (λp=>2-p.1.1) ((0,[]),λ_=>False) ⟨a3o _,mkGe_nil _,λ_ h=>h.elim⟩ zR rfl rfl zS rfl ?_;rintro⟨⟨i,ms⟩,V0⟩ ⟨hi,hms,hV0⟩;dsimp only at hi hms hV0 ⊢;have hm1:¬(it2 hM V0 (hI (chP kv k n i) V0)).X bx:=by rintro(h|h);exact(hM _ h).2.2 (.inl rfl);have:=hV0 _ h;omega
 clear hm3;have hm3:¬(it2 hM V0 (hI (chP kv k n i) V0)).X b3:=by rintro(h|h);(have:=(hM _ h).1;omega);(have:=hV0 _ h;omega)
 refine B 6 ?_;refine zCD ?_ ?_
 ·intro hc3;refine B 6 ?_;refine rv rfl rfl rfl (idxV_r (v:=.int .i64 (2*n+(i:Int))) underlying279 isAgg3 sizeOf3 rfl rfl zG zG (two_at n i zG)) ?_;refine B 5 ?_;refine rv rfl rfl rfl (ldR_r (v:=.map (some mb)) isAgg309 rfl A1 hb1 hm1 (nvm hms zG) rfl) ?_;refine B 1 ?_;refine nq (α:=Nat×Nat) (v:=λq:Nat×Nat=>.func (.func 319) #[] #[ptr q.1 0,ptr q.2 0]) (Φ:=λ(W:World) (q:Nat×Nat) (w1:World)=>W.heap.size<=q.1/\W.heap.size<=q.2/\w1.heap[q.1]? =some (.cells #[.map (some mb)] 309 (0,0))/\w1.heap[q.2]? =some (.cells #[.int .i64 (2*n+(i:Int))] 3 (0,0))) call269 rfl rfl rfl (λW hS=>nye (some mb) (2*n+(i:Int)) W) ?_;rintro Wk q wk hSk hBk ⟨hq1,hq2,hq3,hq4⟩;try dsimp only at hq1 hq2 hq3 hq4
  have hlq1:=(ago.1 hq3).1;have hlq2:=(ago.1 hq4).1;have hzk:=hBk.size;have hzW:=(hSk.links W A1).size;have hz3:=(hSk.links w3 A0).size;have hVk:∀j,V0 j->j<Wk.heap.size:=λj hj=>hSk.xlt j (.inr hj);have hRk:∀j,nfi q.1 q.2 mb j->j<wk.heap.size/\j∉(mkH ms).map (·.1)/\¬(it2 hM V0 (hI (chP kv k n i) V0)).X j:=by
   intro j hj;have hbig:Wk.heap.size<=j->j∉(mkH ms).map (·.1)/\¬(it2 hM V0 (hI (chP kv k n i) V0)).X j:=λhg=>⟨λhm=>by obtain⟨p,hp,e⟩:=ano.1 hm;have:=hSk.lt p hp;omega,λhx=>by rcases hx with hx|hx;(have:=(hM _ hx).1;omega);(have:=hVk _ hx;omega)⟩;rcases hj with rfl|rfl|rfl
   ·exact⟨hlq1,hbig hq1⟩
   ·exact⟨hlq2,hbig hq2⟩
   exact⟨by omega,λhm=>by obtain⟨p,hp,e⟩:=ano.1 hm;have:=nug hms p hp;omega,λhx=>by rcases hx with hx|hx;(exact(hM _ hx).2.2 (.inr (.inr rfl)));(have:=hV0 _ hx;omega)⟩
  refine B 3 ?_;refine CJ.range2 (f:=319) (cap:=[ptr q.1 0,ptr q.2 0]) (α:=Int) (enc:=encZ) (Pre:=Pfx (resL kv k (2*n+(i:Int)))) (Fin:=Is (resL kv k (2*n+(i:Int)))) (RO:=nfi q.1 q.2 mb) (MI:=λ_=>False) rfl call319 (λW' W2 hS hB=>by have hlk:=(hS.links wk A0).size;exact ih (2*n+(i:Int)) q.1 q.2 mb m W2 zG zG (nQn h3 zG) hm (by rw[hB.block q.1 zG];exact hS.old A0 hq3 (hRk _ (.inl rfl)).2.2 (Off.of_mem (hRk _ (.inl rfl)).2.1)) (by rw[hB.block q.2 zG];exact hS.old A0 hq4 (hRk _ (.inr (.inl rfl))).2.2 (Off.of_mem (hRk _ (.inr (.inl rfl))).2.1)) (by have:=(hS.links W A2).size;rw[hB.block mb zG];exact hS.old A2 hmb (hRk _ (.inr (.inr rfl))).2.2 (Off.of_mem (hRk _ (.inr (.inr rfl))).2.1))) (λ_ _ _ hk=>hk.elim) (λW' hS j hj=>⟨by have:=(hRk j hj).1;have:=(hS.links wk A0).size;omega,(hRk j hj).2⟩) (λ_=>rfl) (λpre G' Hc=>∃V1:Foot,(∀j,V0 j->V1 j)/\(∀j,V1 j->V0 j\/w3.heap.size<=j)/\G'=it2 hM V1 (hI (chP kv k n i++pre) V1)/\Hc=mkH ms) (λc G' Hc=>c= .ret/\∃V1:Foot,(∀j,V1 j->W.heap.size<=j)/\G'=it2 hM V1 (hX V1)/\Hc=mkH ms) ⟨V0,λ_ h=>h,λ_ h=>.inl h,by rw[asp],rfl⟩ zI ?_ ?_ ?_
  ·rintro pre x G' Hc l Dk rec W1 M V Wy hrs hrp hpre ⟨V1,hVV,hVn,rfl,rfl⟩ haD hlD hlW haW hlent hsY;simp only[Above]at haD haW;have hVW:∀j,V1 j->W.heap.size<=j:=λj hj=>by rcases hVn j hj with h|h;(have:=hV0 j h;omega);omega
   have hm3:¬((it2 hM V1 (hI (chP kv k n i++pre) V1)).ext λj=>M j\/V j).X b3:=hlent.z zG hm3 (λhm=>by obtain⟨p,hp,e⟩:=ano.1 hm;have:=nug hms p hp;omega) (by rintro(h|h);(have:=(hM _ h).1;omega);(rcases hVn _ h with h|h;(have:=hV0 _ h;omega);omega));have hob3:∀r',Off (book (mkH ms) l r' (bxD Dk)) b3:=λr'=>by unfold book;rw[ne];exact⟨nvm hms zG,by simp only[bxD,Off,and_true];omega⟩
   refine B 3 ?_;refine n8b hrs ?_;refine B 3 ?_;refine rv rfl rfl rfl (ldR_r (v:=yv l0) isAgg88 rfl A2 hb3 hm3 (hob3 _) rfl) ?_;refine B 1 ?_;refine yldT (λj=>M j\/V j) (λG=>G.ext λj=>M j\/V j) (T_ext _) (V:=V1) (λV=>hI ((chP kv k n i++pre)++[x]) V) hX hVW rfl rfl rfl rfl (λW1 hV1 hI1=>hy (chP kv k n i++pre) x V1 W1 (by rw[a2o,n9f (by simpa using hc1) zG,<-n1l];exact chP_pfx zG hpre) hV1 hI1) ?_ ?_
   ·intro V2 hV2 hV3;have hV2y:=hV3 Wy A0;have hV2w:∀j,V2 j->V0 j\/w3.heap.size<=j:=λj hj=>by rcases hV2y j hj with h|h;exact hVn j h;exact .inr (by have:=(hsY.links w3 A1).size;omega)
    try dsimp only
    refine B 6 ?_;refine njb (G2:=it2 hM V2 (hI ((chP kv k n i++pre)++[x]) V2)) (Hc2:=mkH ms) hlent hlD ⟨(λj h=>h.imp id (λh=>hV2 j (hVV j h))),(λj h=>h.elim (λh=>.inl (.inl h)) (λh=>(hV2y j h).imp .inr id)),(λj h=>h.elim (λh=>.inl (.inl h)) (λh=>(hV2y j h).imp .inr id)),(λp hp=>.inl (ano.2 ⟨p,hp,rfl⟩)),(λp hp=>.inl (ano.2 ⟨p,hp,rfl⟩))⟩ (nxb hrs hrp) ?_;exact⟨V2,λj h=>hV2 j (hVV j h),hV2w,by rw[a2o],rfl⟩
   intro V2 hV2 hV3;have hV2y:=hV3 Wy A0;have hV2w:∀j,V2 j->V0 j\/w3.heap.size<=j:=λj hj=>by rcases hV2y j hj with h|h;exact hVn j h;exact .inr (by have:=(hsY.links w3 A1).size;omega)
   try dsimp only
   refine B 6 ?_;refine nSc (G2:=it2 hM V2 (hX V2)) (Hc2:=mkH ms) (c:=.ret) hlent hlD ⟨(λj h=>h.imp id (λh=>hV2 j (hVV j h))),(λj h=>h.elim (λh=>.inl (.inl h)) (λh=>(hV2y j h).imp .inr id)),(λj h=>h.elim (λh=>.inl (.inl h)) (λh=>(hV2y j h).imp .inr id)),(λp hp=>.inl (ano.2 ⟨p,hp,rfl⟩)),(λp hp=>.inl (ano.2 ⟨p,hp,rfl⟩))⟩ (.inl ⟨rfl,rfl⟩) rfl ?_;exact⟨rfl,V2,λj hj=>by rcases hV2w j hj with h|h;(have:=hV0 j h;omega);omega,rfl,rfl⟩
  ·rintro xs' l Dk rec G' Hc rfl haD hlD ⟨V1,hVV,hVn,rfl,rfl⟩;replace haD:=yb haD;refine B 7 ?_;refine PJ.perm (nYk l Dk rec ms []) ?_;refine nOn ((i+1,(l,rec,Dk)::ms),V1) ⟨by dsimp only;omega,nAj haD.2.1 zG hms,λj hj=>(hVn j hj).elim (hV0 j) id⟩ z2 zR rfl (by dsimp only;rw[nqh]) zS rfl
  rintro l Dk rec c G' Hc haD hlD ⟨rfl,V1,hVW,rfl,rfl⟩;replace haD:=yb haD;refine CJ.perm (nYk l Dk rec ms []) ?_;refine B 6 ?_;exact nZe (ms:=(l,rec,Dk)::ms) (H0:=[]) (.inl rfl) results319 A2 hVW (by intro j hj hx;obtain⟨p,hp,e⟩:=ano.1 hx;have:=nug (n:=w3.heap.size) (ms:=(l,rec,Dk)::ms) (nAj haD.2.1 zG hms) p hp;omega) (λA hA=>.inr hA)
 intro hc3;refine B 4 ?_;exact nZe (ms:=ms) (H0:=[]) (.inr rfl) results319 A1 (λj hj=>by have:=hV0 j hj;omega) (by intro j hj hx;obtain⟨p,hp,e⟩:=ano.1 hx;have:=nug (n:=w3.heap.size) (ms:=ms) hms p hp;omega) (λA hA=>.inl ⟨chP kv k n i,by rw[n9f (by simpa using hc1) zG,<-n1l,show i=2 by omega],hA⟩)
theorem resI(kv:List (Int×Int)):∀k,ResI kv k
 |0=>nAn kv
 |k+1=>λn bx by_ mb m W h1 h2 h3 hm hb1 hb2 hmb=>nqn (resI kv k) n bx by_ mb m W h1 h2 h3 hm hb1 hb2 hmb
theorem OJ.frz{Q:Post}{l:List Oper}(hi:H[i]? =some (b,o))(hH:H.eraseIdx i=H')(ha:Above L b)(k:∀w1,w1.heap[b]? =some o->b<w1.heap.size->(∀w∈L,w.heap.size<=w1.heap.size)->OJ C ops Q l E D G (w1::L) H'):OJ C ops Q l E D G L H:=by
 subst hH;intro a W hN hD hF hS;have hb:=hS.own _ (ajo hi);exact k W hb (ago.1 hb).1 (λw hw=>(hS.links w hw).size) a W hN hD hF (hS.dropAt hi ha).snap
noncomputable def neb (ns:List Nd) (n:Int):List Int:=if trI ns=0/\1<=n/\n<=1023 then resL (ofL ns) 10 n else[]
noncomputable def nEe (ns:List Nd) (n:Int):Int:=if trI ns=0 then(if 1<=n/\n<=1023 then 0 else 200)else 210
theorem nqf(kv:List (Int×Int)):∀(k:Nat) (n:Int),(resL kv k n).length<=2^k
 |0,n=>by simp[resL]
 |k+1,n=>by
  have h1:=nqf kv k (2*n);have h2:=nqf kv k (2*n+1);have h3:2^(k+1)=2^k+2^k:=by rw[Nat.pow_succ];omega
  have h4:0<2^k:=Nat.pow_pos zI;by_cases h5:(kget kv n).isSome=true
  ·rw[nBh h5];simp;omega
  by_cases h6:512<=n
  ·rw[nNj h5 h6];simp
  rw[n9f h5 h6,aHo];omega
theorem nEj(ns:List Nd)(n:Int):(neb ns n).length<=1024:=by
 unfold neb;split
 ·exact nqf _ 10 n
 simp
theorem entRes1:Ent prog 319:=call319
theorem nhj(ns:List Nd)(hn:ns.length<=100000)(N:Nat)(a:Option Addr)(cp:Nat)(w:World)(hN:N<=w.heap.size)(hsl:SlAt ndA 2 N w a ns)(htr:trI ns=210)(n:Int):Calls prog 215 #[.agg #[.slice a ns.length cp],.int .i64 n] w (nC w encZ 1 3 [] (λs=>.tuple #[s,.int .i64 (210)])):=by
 refine zRh ?_;intro b2 w2 hb2 ha2 ho2 hm2 hz2;replace ha2:=yb ha2;replace ho2:=yc ho2;refine B 7 ?_;refine zVe ?_;refine zYf ?_;refine B 6 ?_;refine zxe ?_;refine B 12 ?_;exact zOi
theorem n2j(ns:List Nd)(hn:ns.length<=100000)(N:Nat)(a:Option Addr)(cp:Nat)(w:World)(hN:N<=w.heap.size)(hsl:SlAt ndA 2 N w a ns)(htr:trI ns=0)(n:Int)(hno:¬(1<=n/\n<=1023)):Calls prog 215 #[.agg #[.slice a ns.length cp],.int .i64 n] w (nC w encZ 1 3 [] (λs=>.tuple #[s,.int .i64 (200)])):=by
 refine zRh ?_;intro b2 w2 hb2 ha2 ho2 hm2 hz2;replace ha2:=yb ha2;replace ho2:=yc ho2;refine B 7 ?_;refine zVe ?_;refine zBe ?_;refine zxh ?_;refine B 7 ?_;by_cases h1:n<1
 ·refine B 2 ?_;refine zog ?_;refine B 15 ?_;exact zOi
 refine zJh ?_;refine B 2 ?_;refine zbh ?_;refine B 12 ?_;exact zOi
theorem nYj(ns:List Nd)(hn:ns.length<=100000)(N:Nat)(a:Option Addr)(cp:Nat)(w:World)(hN:N<=w.heap.size)(hsl:SlAt ndA 2 N w a ns)(htr:trI ns=0)(n:Int)(hno:1<=n/\n<=1023):Calls prog 215 #[.agg #[.slice a ns.length cp],.int .i64 n] w (nC w encZ 1 3 (resL (ofL ns) 10 n) (λs=>.tuple #[s,.int .i64 (0)])):=by
 have hn1:=hno.1;have hn2:=hno.2;refine zRh ?_;intro b2 w2 hb2 ha2 ho2 hm2 hz2;replace ha2:=yb ha2;replace ho2:=yc ho2;refine B 7 ?_;refine zVe ?_;refine zBe ?_;refine zxh ?_;refine B 9 ?_;refine zUd ?_;refine B 2 ?_;refine zvg ?_;refine B 8 ?_;refine zVe ?_;refine zXe ?_;intro bf m haf hof hm;replace haf:=yb haf;refine B 1 ?_;refine OJ.frz (i:=0) (H':=[]) rfl rfl zQ ?_;intro wf hwf hlf hzf;have hzf0:=hzf w A1;refine nq (α:=Nat×Nat) (v:=λq:Nat×Nat=>.func (.func 319) #[] #[ptr q.1 0,ptr q.2 0]) (Φ:=λ(W:World) (q:Nat×Nat) (w1:World)=>W.heap.size<=q.1/\W.heap.size<=q.2/\w1.heap[q.1]? =some (.cells #[.map (some bf)] 309 (0,0))/\w1.heap[q.2]? =some (.cells #[.int .i64 n] 3 (0,0))) call269 rfl rfl rfl (λW hS=>nye (some bf) n W) ?_;rintro Wk q wk hSk hBk ⟨hq1,hq2,hq3,hq4⟩;try dsimp only at hq1 hq2 hq3 hq4
 have hlq1:=(ago.1 hq3).1;have hlq2:=(ago.1 hq4).1;have hzk:=hBk.size;have hzw:=(hSk.links wf A0).size;refine nbj (enc:=encZ) (m:=1) (t:=3) (Fin:=Is (resL (ofL ns) 10 n)) (v:=id) call268 rfl rfl rfl (λW hS=>nuj (f:=319) (cap:=[ptr q.1 0,ptr q.2 0]) (Pre:=Pfx (resL (ofL ns) 10 n)) (Fin:=Is (resL (ofL ns) 10 n)) (RO:=nfi q.1 q.2 bf) entRes1 W ?_ ?_ ?_) ?_
 ·have hl1:=(hS.links wk A0).size;rintro j (rfl|rfl|rfl)<;>omega
 ·intro p hp;have h1:p.length<=_:=hp.length_le;have h2:=nqf (ofL ns) 10 n;omega
 ·intro W2 hB;have hl1:=(hS.links wk A0).size;exact resI (ofL ns) 10 n q.1 q.2 bf m W2 zG zG zG hm (by rw[hB.block q.1 zG];exact hS.old A0 hq3 zO trivial) (by rw[hB.block q.2 zG];exact hS.old A0 hq4 zO trivial) (by rw[hB.block bf zG];exact hS.old A1 hwf zO trivial)
 intro xs r hfin hrf hrfit;cases hfin
 refine B 5 ?_;exact nU (H0:=[]) (H1:=[]) (r:=r) (.inl rfl) results215 (RS.t rfl (RS.t rfl RS.n)) A3 (by rw[asp];exact Rw.over (Rw.ge_of hrf A3)) rfl hrfit (Rw.ge_of hrf A3) zS
theorem nUf(ns:List Nd)(hn:ns.length<=100000)(N:Nat)(a:Option Addr)(cp:Nat)(w:World)(hN:N<=w.heap.size)(hsl:SlAt ndA 2 N w a ns)(n:Int):Calls prog 215 #[.agg #[.slice a ns.length cp],.int .i64 n] w (nC w encZ 1 3 (neb ns n) (λs=>.tuple #[s,.int .i64 (nEe ns n)])):=by
 rcases nHg ns with h|h
 ·by_cases h2:1<=n/\n<=1023
  ·have e1:neb ns n=resL (ofL ns) 10 n:=by unfold neb;rw[if_pos ⟨h,h2⟩]
   have e2:nEe ns n=0:=by unfold nEe;rw[if_pos h,if_pos h2]
   rw[e1,e2];exact nYj ns hn N a cp w hN hsl h n h2
  have e1:neb ns n=[]:=by unfold neb;rw[if_neg λg=>h2 g.2]
  have e2:nEe ns n=200:=by unfold nEe;rw[if_pos h,if_neg h2]
  rw[e1,e2];exact n2j ns hn N a cp w hN hsl h n h2
 have e1:neb ns n=[]:=by unfold neb;rw[if_neg λg=>by have:=g.1;omega]
 have e2:nEe ns n=210:=by unfold nEe;rw[if_neg zG]
 rw[e1,e2];exact nhj ns hn N a cp w hN hsl h n
structure Mb where
 dev:Int
 since:Int
 ver:Int
def mbA (x:Mb):Array Value:=#[.int .i64 x.dev,.int .i64 x.since,.int .i64 x.ver]
def mbE (x:Mb):List Value:=[.int .i64 x.dev,.int .i64 x.since,.int .i64 x.ver]
structure Ch where
 kind:Int
 dev:Int
 pub:Int
 ver:Int
 cut:Int
def chA (x:Ch):Array Value:=#[.int .i64 x.kind,.int .i64 x.dev,.int .i64 x.pub,.int .i64 x.ver,.int .i64 x.cut]
def chE (x:Ch):List Value:=[.int .i64 x.kind,.int .i64 x.dev,.int .i64 x.pub,.int .i64 x.ver,.int .i64 x.cut]
theorem nMb(x:Mb):(mbE x).length=3:=rfl
theorem nCb(x:Ch):(chE x).length=5:=rfl
theorem nzg(x:Mb):∀u∈mbE x,u.oneCell'=true:=by intro u hu;simp[mbE]at hu;rcases hu with rfl|rfl|rfl<;>rfl
theorem n1i(x:Ch):∀u∈chE x,u.oneCell'=true:=by intro u hu;simp[chE]at hu;rcases hu with rfl|rfl|rfl|rfl|rfl<;>rfl
theorem info_mb:prog.info? 248=some Tryz.t248:=by kernel_rfl
theorem info_ch:prog.info? 229=some Tryz.t229:=by kernel_rfl
def cmpI (a b:Int):Int:=if a<b then -1 else if b<a then 1 else 0
abbrev FdOk (f:Int):Prop:=0<=f/\f<16
theorem nRe{α:Type}{p:α->Bool}{xs:List α}(h:∀i x,i<j->xs[i]? =some x->p x=false)(hj:¬j<xs.length):xs.any p=false:=by
 rw[List.any_eq_false];intro x hx;obtain⟨i,hi⟩:=aoo.1 hx;have:=h i x (by have:=nz hi;omega) hi;simp[this]
theorem naj{α:Type}{p:α->Bool}{xs:List α}{x:α}(hx:xs[j]? =some x)(h:p x=true):xs.any p=true:=List.any_eq_true.2 ⟨x,ajo hx,h⟩
def NoTo {α:Type} (p:α->Bool) (xs:List α) (j:Nat):Prop:=∀i x,i<j->xs[i]? =some x->p x=false
theorem NoTo.next{α:Type}{p:α->Bool}{xs:List α}{x:α}(h:NoTo p xs j)(hx:xs[j]? =some x)(hp:p x=false):NoTo p xs (j+1):=by
 exact z3j
def IdxAt {α:Type} (p:α->Bool) (xs:List α) (i:Int):Prop:=(i= -1/\xs.any p=false)\/∃(k:Nat) (x:α),i=(k:Int)/\xs[k]? =some x/\p x=true/\NoTo p xs k
theorem IdxAt.any{α:Type}{p:α->Bool}{xs:List α}{i:Int}(h:IdxAt p xs i):decide (0<=i)=xs.any p:=by
 rcases h with⟨rfl,h⟩|⟨k,x,rfl,hx,hp,_⟩
 ·rw[h];rfl
 rw[naj hx hp];simp
def bsF (xs:List Mb) (d:Int) (i j:Nat):Nat:=
 if h:i<j then(if((xs[(i+j)/2]?).map (·.dev)).getD 0<d then bsF xs d ((i+j)/2+1) j else bsF xs d i ((i+j)/2))else i
termination_by j-i
decreasing_by all_goals omega
theorem bsF_up{xs:List Mb}{x:Mb}(h:i<j)(hx:xs[(i+j)/2]? =some x)(hd:x.dev<d):bsF xs d i j=bsF xs d ((i+j)/2+1) j:=by
 rw[bsF,dif_pos h,hx];simp[hd]
theorem bsF_dn{xs:List Mb}{x:Mb}(h:i<j)(hx:xs[(i+j)/2]? =some x)(hd:¬x.dev<d):bsF xs d i j=bsF xs d i ((i+j)/2):=by
 rw[bsF,dif_pos h,hx];simp[hd]
theorem bsF_eq{xs:List Mb}(h:¬i<j):bsF xs d i j=i:=by rw[bsF,dif_neg h]
theorem nMi(a b:Int):cmpI a b<0↔a<b:=by unfold cmpI;split<;>(try split)<;>omega
theorem cmpI_eq(a b:Int):cmpI a b=0↔a=b:=by unfold cmpI;split<;>(try split)<;>omega
def mbAt (xs:List Mb) (d:Int):Nat:=bsF xs d 0 xs.length
def mbIs (xs:List Mb) (d:Int):Bool:=decide (((xs[mbAt xs d]?).map (·.dev))=some d)
theorem nNk{xs:List Mb}{x:Mb}(h:mbAt xs d=i)(hx:xs[i]? =some x):decide (cmpI x.dev d=0)=mbIs xs d:=by
 unfold mbIs;rw[h,hx];simp[cmpI_eq]
theorem njj{xs:List Mb}(h:mbAt xs d=i)(hi:¬i<xs.length):false=mbIs xs d:=by
 unfold mbIs;rw[h,aYo zG];simp
theorem mbIs_lt{xs:List Mb}(h:mbIs xs d=true):mbAt xs d<xs.length:=by
 by_cases h2:mbAt xs d<xs.length
 ·exact h2
 rw[<-njj rfl h2]at h;cases h
theorem n3k(f:Int)(w:World):Calls prog 155 #[.int .i64 f] w (Ret w (.bool (decide (FdOk f)))):=by
 refine enter (vs:=[_]) func155 rfl ntmps155 rfl ?_;refine B 10 ?_;refine nf (t:=5) rfl (λhc1=>?_) (λhc1=>?_)
 ·exact zMj
 exact zMj
theorem nnd(f:Int)(w:World):Calls prog 162 #[.int .i64 f] w (Ret w (.bool (decide (DvOk f)))):=by
 refine enter (vs:=[_]) func162 rfl ntmps162 rfl ?_;refine B 10 ?_;refine nf (t:=5) rfl (λhc1=>?_) (λhc1=>?_)
 ·exact zLj
 exact zLj
theorem npj(f:Int)(w:World):Calls prog 182 #[.int .i64 f] w (Ret w (.bool false)):=by
 refine enter (vs:=[_]) func182 rfl ntmps182 rfl ?_;refine B 14 ?_;refine retV results182 rfl A0 ?_;exact congrArg Value.bool zS
theorem cmp_int(a b:Int)(w:World):Calls prog 129 #[.int .i64 a,.int .i64 b] w (Ret w (.int .i64 (cmpI a b))):=by
 refine enter (vs:=[_,_]) func129 rfl ntmps129 rfl ?_;refine B 8 ?_;refine call call182 rfl rfl rfl (λW hS=>npj _ W) (v:=.bool false) ?_;refine B 6 ?_;refine call call182 rfl rfl rfl (λW hS=>npj _ W) (v:=.bool false) ?_;refine B 29 ?_;refine zCD ?_ ?_
 ·intro hc1;refine B 7 ?_;exact zHj
 intro hc1;refine B 10 ?_;refine zCD ?_ ?_
 ·intro hc2;refine B 7 ?_;exact zHj
 intro hc2;refine B 8 ?_;exact zHj
theorem ngl(x:Mb)(d:Int)(w:World):Calls prog 218 #[.agg (mbA x),.int .i64 d] w (Ret w (.int .i64 (cmpI x.dev d))):=by
 refine enter (vs:=[_,_]) func218 rfl ntmps218 rfl ?_;refine B 3 ?_;intro b2 w2 hb2 ha2 ho2 hm2 hz2;replace ha2:=yb ha2;replace ho2:=yc ho2;refine B 8 ?_;refine call call129 rfl rfl rfl (λW hS=>cmp_int _ _ W) ?_;refine B 4 ?_;refine retV results218 rfl A1 ?_;rfl
theorem nPn(xs:List Mb)(hxl:xs.length<=1000000)(N:Nat)(a:Option Addr)(cp:Nat)(w:World)(hN:N<=w.heap.size)(hsl:SlAt mbA 3 N w a xs)(d:Int):Calls prog 217 #[.slice a xs.length cp,.int .i64 d,.func (.func 218) #[] #[]] w (Ret w (.tuple #[.int .i64 (mbAt xs d:Int),.bool (mbIs xs d)])):=by
 refine enter (vs:=[_,_,_]) func217 rfl ntmps217 rfl ?_;refine B 22 ?_;refine CJ.loop (α:=Nat×Nat) (λp=>[(0,.slice a xs.length cp),(1,.int .i64 d),(2,.func (.func 218) #[] #[]),(8,.int .i64 (xs.length:Int)),(9,.int .i64 (p.1:Int)),(10,.int .i64 (p.2:Int))]) (λp=>[]) (λp=>[w]) (λp=>Gh.no) (λp=>p.1<=p.2/\p.2<=xs.length/\bsF xs d p.1 p.2=mbAt xs d) (λp=>p.2-p.1) (0,xs.length) ⟨a3o _,abo _,rfl⟩ zR rfl rfl zS ?_;rintro⟨i,j⟩ ⟨hij,hjn,hbs⟩;dsimp only at hij hjn hbs ⊢;refine B 8 ?_;refine zCD ?_ ?_
 ·intro hc1;refine B 9 ?_;refine rv rfl rfl rfl (shrC_r 1 2 zI rfl rfl rfl) ?_;refine rv rfl rfl rfl (RV.re (v':=.int .i64 (((i+j)/2:Nat):Int)) (cvtI_r underlying271 underlying3 rfl zG zG) ((congrArg (Value.int .i64) zG))) ?_;refine B 4 ?_;obtain⟨bo,oo,cs0,to,fr0,rfl,hbo,hcs,hel0⟩:=hsl.get zG;obtain⟨x,hx⟩:=nj xs ((i+j)/2) zG;refine zQh ?_;refine B 3 ?_;refine zCD ?_ ?_
  ·intro hc2;refine B 6 ?_;refine PJ.again ((i+j)/2+1,j) ⟨by dsimp only;omega,hjn,by rw[<-hbs,bsF_up zG hx ((nMi _ _).1 zZ)]⟩ z2 zR rfl rfl zS
  intro hc2;refine B 5 ?_;refine PJ.again (i,(i+j)/2) ⟨by dsimp only;omega,by dsimp only;omega,by rw[<-hbs,bsF_dn zG hx (λh=>(by assumption:¬cmpI x.dev d<0) ((nMi _ _).2 h))]⟩ z2 zR rfl rfl zS
 intro hc1;refine B 6 ?_;have hbe:mbAt xs d=i:=by rw[<-hbs,bsF_eq zG]
 by_cases h1:i<xs.length
 ·obtain⟨bo,oo,cs0,to,fr0,rfl,hbo,hcs,hel0⟩:=hsl.get zG;obtain⟨x,hx⟩:=nj xs i zG;refine B 4 ?_;refine zog ?_;refine zQh ?_;refine B 7 ?_;exact zsj
 refine B 4 ?_;refine zUd ?_;refine B 15 ?_;exact zsj
theorem nwe(p:Mb->Bool)(f:Nat)(cap:List Value)(hent:Ent prog f)(xs:List Mb)(hxl:xs.length<=1000000)(N:Nat)(a:Option Addr)(cp:Nat)(w:World)(hN:N<=w.heap.size)(hsl:SlAt mbA 3 N w a xs)(hp:∀(j:Nat) (x:Mb),xs[j]? =some x->∀W,Below w.heap.size w W->Calls prog f (.agg (mbA x)::cap).toArray W (Ret W (.bool (p x)))):Calls prog 179 #[.slice a xs.length cp,.func (.func f) #[] cap.toArray] w (RetX w (λi:Int=>.int .i64 i) (λi _=>IdxAt p xs i)):=by
 refine enter (vs:=[_,_]) func179 rfl ntmps179 rfl ?_;refine z9d ?_;rintro j ⟨hj,hto⟩;refine B 6 ?_;refine zCD ?_ ?_
 ·intro hc1;refine B 11 ?_;obtain⟨bo,oo,cs0,to,fr0,rfl,hbo,hcs,hel0⟩:=hsl.get zG;obtain⟨x,hx⟩:=nj xs j zG;refine B 5 ?_;refine zIe ?_;refine zgf ?_;refine B 2 ?_;refine zCD ?_ ?_
  ·intro hc2;refine B 12 ?_;refine nE (j:Int) results179 rfl A0 rfl ?_;exact zqj
  exact zRi
 intro hc1;refine B 11 ?_;refine nE (-1:Int) results179 rfl A0 rfl ?_;exact zYj
theorem nHe(p:Mb->Bool)(f:Nat)(cap:List Value)(hent:Ent prog f)(xs:List Mb)(hxl:xs.length<=1000000)(N:Nat)(a:Option Addr)(cp:Nat)(w:World)(hN:N<=w.heap.size)(hsl:SlAt mbA 3 N w a xs)(hp:∀(j:Nat) (x:Mb),xs[j]? =some x->∀W,Below w.heap.size w W->Calls prog f (.agg (mbA x)::cap).toArray W (Ret W (.bool (p x)))):Calls prog 161 #[.slice a xs.length cp,.func (.func f) #[] cap.toArray] w (Ret w (.bool (xs.any p))):=by
 refine enter (vs:=[_,_]) func161 rfl ntmps161 rfl ?_;refine B 9 ?_;refine nq (α:=Int) (v:=λi:Int=>.int .i64 i) (Φ:=λ_ i _=>IdxAt p xs i) call179 rfl rfl rfl (λW hS=>nwe p f cap hent xs hxl N a cp W (aco hN (hS.links w A0).size) (hsl.up (abo _) (hS.same A0 hN zN trivial)) (λj x hx W2 hB=>hp j x hx W2 (((hS.links w A0).below zNc).trans (hB.mono (hS.links w A0).size)))) ?_;intro Wi i wi hSi hBi hi;refine B 5 ?_;refine retV results161 rfl A1 ?_;exact congrArg Value.bool hi.any
theorem nse(p:Ch->Bool)(f:Nat)(cap:List Value)(hent:Ent prog f)(xs:List Ch)(hxl:xs.length<=1000000)(N:Nat)(a:Option Addr)(cp:Nat)(w:World)(hN:N<=w.heap.size)(hsl:SlAt chA 5 N w a xs)(hp:∀(j:Nat) (x:Ch),xs[j]? =some x->∀W,Below w.heap.size w W->Calls prog f (.agg (chA x)::cap).toArray W (Ret W (.bool (p x)))):Calls prog 178 #[.slice a xs.length cp,.func (.func f) #[] cap.toArray] w (RetX w (λi:Int=>.int .i64 i) (λi _=>IdxAt p xs i)):=by
 refine enter (vs:=[_,_]) func178 rfl ntmps178 rfl ?_;refine z9d ?_;rintro j ⟨hj,hto⟩;refine B 6 ?_;refine zCD ?_ ?_
 ·intro hc1;refine B 11 ?_;obtain⟨bo,oo,cs0,to,fr0,rfl,hbo,hcs,hel0⟩:=hsl.get zG;obtain⟨x,hx⟩:=nj xs j zG;refine B 5 ?_;refine rv rfl rfl rfl (RV.re (v':=.agg (chA x)) (ldRA_r isAgg229 sizeOf229 rfl A0 hcs zO trivial (nk hel0 hx rfl)) (congrArg Value.agg (nl hel0 hx rfl))) ?_;refine zgf ?_;refine B 2 ?_;refine zCD ?_ ?_
  ·intro hc2;refine B 12 ?_;refine nE (j:Int) results178 rfl A0 rfl ?_;exact zqj
  exact zRi
 intro hc1;refine B 11 ?_;refine nE (-1:Int) results178 rfl A0 rfl ?_;exact zYj
theorem noc(p:Ch->Bool)(f:Nat)(cap:List Value)(hent:Ent prog f)(xs:List Ch)(hxl:xs.length<=1000000)(N:Nat)(a:Option Addr)(cp:Nat)(w:World)(hN:N<=w.heap.size)(hsl:SlAt chA 5 N w a xs)(hp:∀(j:Nat) (x:Ch),xs[j]? =some x->∀W,Below w.heap.size w W->Calls prog f (.agg (chA x)::cap).toArray W (Ret W (.bool (p x)))):Calls prog 123 #[.slice a xs.length cp,.func (.func f) #[] cap.toArray] w (Ret w (.bool (xs.any p))):=by
 refine enter (vs:=[_,_]) func123 rfl ntmps123 rfl ?_;refine B 9 ?_;refine nq (α:=Int) (v:=λi:Int=>.int .i64 i) (Φ:=λ_ i _=>IdxAt p xs i) call178 rfl rfl rfl (λW hS=>nse p f cap hent xs hxl N a cp W (aco hN (hS.links w A0).size) (hsl.up (abo _) (hS.same A0 hN zN trivial)) (λj x hx W2 hB=>hp j x hx W2 (((hS.links w A0).below zNc).trans (hB.mono (hS.links w A0).size)))) ?_;intro Wi i wi hSi hBi hi;refine B 5 ?_;refine retV results123 rfl A1 ?_;exact congrArg Value.bool hi.any
structure Gp where
 folder:Int
 epoch:Int
 last:Nat->Int
 ms:List Mb
 ns:List Nd
structure Gv where
 g:Gp
 ma:Option Addr
 mc:Nat
 na:Option Addr
 nc:Nat
def gpA (x:Gv):Array Value:=#[.int .i64 x.g.folder,.int .i64 x.g.epoch,.int .u8 (x.g.last 0),.int .u8 (x.g.last 1),.int .u8 (x.g.last 2),.int .u8 (x.g.last 3),.int .u8 (x.g.last 4),.int .u8 (x.g.last 5),.int .u8 (x.g.last 6),.int .u8 (x.g.last 7),.int .u8 (x.g.last 8),.int .u8 (x.g.last 9),.int .u8 (x.g.last 10),.int .u8 (x.g.last 11),.int .u8 (x.g.last 12),.int .u8 (x.g.last 13),.int .u8 (x.g.last 14),.int .u8 (x.g.last 15),.int .u8 (x.g.last 16),.int .u8 (x.g.last 17),.int .u8 (x.g.last 18),.int .u8 (x.g.last 19),.int .u8 (x.g.last 20),.int .u8 (x.g.last 21),.int .u8 (x.g.last 22),.int .u8 (x.g.last 23),.int .u8 (x.g.last 24),.int .u8 (x.g.last 25),.int .u8 (x.g.last 26),.int .u8 (x.g.last 27),.int .u8 (x.g.last 28),.int .u8 (x.g.last 29),.int .u8 (x.g.last 30),.int .u8 (x.g.last 31),.slice x.ma x.g.ms.length x.mc,.slice x.na x.g.ns.length x.nc]
structure GvAt (N:Nat) (w:World) (x:Gv):Prop where
 ms:SlAt mbA 3 N w x.ma x.g.ms
 ns:SlAt ndA 2 N w x.na x.g.ns
 mn:x.g.ms.length<=10000
 nn:x.g.ns.length<=80000
theorem GvAt.up{w:World}{x:Gv}(h:GvAt N w x)(hN:N<=N')(hw:∀k,k<N->w'.heap[k]? =w.heap[k]?):GvAt N' w' x:=⟨h.ms.up hN hw,h.ns.up hN hw,h.mn,h.nn⟩
def n0d (ep:Int) (x:Mb):Bool:=decide (x.since<1\/ep<x.since\/¬GOk x.ver)
def vldP (g:Gp):Prop:=(FdOk g.folder/\0<=g.epoch/\g.epoch<=1099511627776/\trI g.ns=0)/\¬(g.epoch=0/\(0<g.ms.length\/eqD g.last (λ_=>0)=false))/\g.ms.map (·.dev)=memL g.ns/\g.ms.any (n0d g.epoch)=false
open Classical in
noncomputable def vldB (g:Gp):Bool:=decide (vldP g)
theorem nUh(a:Int):(if GOk a then(0:Int)else 40)=0↔GOk a:=by
 by_cases h:GOk a
 ·rw[if_pos h];exact⟨λ_=>h,λ_=>rfl⟩
 rw[if_neg h];exact⟨λe=>absurd e zI,λg=>absurd g h⟩
theorem nom(G:Gv)(b:Nat)(x:Mb)(w:World)(hb1:w.heap[b]? =some (.cells (gpA G) 62 (0,0))):Calls prog 157 #[.agg (mbA x),ptr b 0] w (Ret w (.bool (n0d G.g.epoch x))):=by
 have hm1:¬Gh.no.X b:=λh=>h;have hl1:=(ago.1 hb1).1;obtain⟨e,he⟩:∃e,(if GOk x.ver then(0:Int)else 40)=e:=⟨_,rfl⟩;have hek:=nUh x.ver;rw[he]at hek;refine enter (vs:=[_,_]) func157 rfl ntmps157 rfl ?_;refine B 3 ?_;intro b2 w2 hb2 ha2 ho2 hm2 hz2;replace ha2:=yb ha2;replace ho2:=yc ho2;refine B 9 ?_;refine nf (t:=7) rfl (λhc1=>?_) (λhc1=>?_)
 ·replace hc1:=ya hc1;refine B 16 ?_;exact zSj
 replace hc1:=ya hc1;refine B 7 ?_;refine nf (t:=14) rfl (λhc2=>?_) (λhc2=>?_)
 ·replace hc2:=ya hc2;refine B 9 ?_;exact zSj
 replace hc2:=ya hc2;refine B 2 ?_;refine zzf ?_;refine B 6 ?_;exact zSj
theorem valid_2(x:Mb)(d:Int)(w:World):Calls prog 158 #[.agg (mbA x),.int .i64 d] w (Ret w (.bool (decide (x.dev=d)))):=by
 refine enter (vs:=[_,_]) func158 rfl ntmps158 rfl ?_;refine B 3 ?_;intro b2 w2 hb2 ha2 ho2 hm2 hz2;replace ha2:=yb ha2;replace ho2:=yc ho2;refine B 13 ?_;refine retV results158 rfl A1 ?_;rfl
theorem nlg{α β:Type}{f:α->β}{xs:List α}{ys:List β}(hl:xs.length=ys.length)(h:∀i x y,i<xs.length->xs[i]? =some x->ys[i]? =some y->f x=y):xs.map f=ys:=by
 apply List.ext_getElem zdc;intro i h1 h2;simp only[aAo]at h1;simpa using h i _ _ h1 (aNo h1) (aNo h2)
theorem n8f{α β:Type}{f:α->β}{xs:List α}{ys:List β}{x:α}{y:β}(hx:xs[i]? =some x)(hy:ys[i]? =some y)(hne:f x≠y):xs.map f≠ys:=by
 intro e;have h:(xs.map f)[i]? =ys[i]? :=by rw[e]
 rw[aSo,hx,hy]at h;simp only[aTo,a9n]at h;exact hne h
def SameTo {α β:Type} (f:α->β) (xs:List α) (ys:List β) (j:Nat):Prop:=∀i x y,i<j->xs[i]? =some x->ys[i]? =some y->f x=y
theorem SameTo.next{α β:Type}{f:α->β}{xs:List α}{ys:List β}{x:α}{y:β}(h:SameTo f xs ys j)(hx:xs[j]? =some x)(hy:ys[j]? =some y)(e:f x=y):SameTo f xs ys (j+1):=by
 exact zzj
theorem nUc(xs:List Mb)(hxl:xs.length<=1000000)(N:Nat)(a:Option Addr)(cp:Nat)(w:World)(hN:N<=w.heap.size)(hsl:SlAt mbA 3 N w a xs)(ys:List Int)(a2:Option Addr)(cp2:Nat)(hsl2:SlAt (λx=>(encZ x).toArray) 1 N w a2 ys):Calls prog 159 #[.slice a xs.length cp,.slice a2 ys.length cp2,.func (.func 158) #[] #[]] w (Ret w (.bool (decide (xs.map (·.dev)=ys)))):=by
 refine enter (vs:=[_,_,_]) func159 rfl ntmps159 rfl ?_;refine B 15 ?_;refine zCD ?_ ?_
 ·intro hc1;refine B 7 ?_;refine retV results159 rfl A0 ?_;exact congrArg Value.bool zad
 intro hc1;refine B 11 ?_;refine CJ.loop (α:=Nat) (λj=>[(1,.slice a2 ys.length cp2),(2,.func (.func 158) #[] #[]),(15,.slice a xs.length cp),(16,.int .i64 (xs.length:Int)),(17,.int .i64 (j:Int))]) (λj=>[]) (λj=>[w]) (λj=>Gh.no) (λj=>j<=xs.length/\SameTo (·.dev) xs ys j) (λj=>xs.length-j) 0 ⟨a3o _,λi x y hi=>absurd hi zG⟩ zR rfl rfl zS ?_;rintro j ⟨hj,hto⟩;refine B 6 ?_;refine zCD ?_ ?_
 ·intro hc2;refine B 5 ?_;obtain⟨bo,oo,cs0,to,fr0,rfl,hbo,hcs,hel0⟩:=hsl.get zG;obtain⟨x,hx⟩:=nj xs j zG;refine B 3 ?_;refine zIe ?_;refine allW zeroValue248 rfl rfl ?_;intro b8 ha8 ho8;replace ha8:=yb ha8;replace ho8:=yc ho8;refine B 1 ?_;refine z3g ?_;refine B 3 ?_;obtain⟨bp,op,csp,tp,frp,rfl,hbp,hcsp,help⟩:=hsl2.get zG;obtain⟨y,hy⟩:=nj ys j zG;refine B 4 ?_;refine rv rfl rfl rfl (ldR_r (v:=.int .i64 y) isAgg3 rfl A0 hcsp zO zab (by have:=nF (enc:=λx=>(encZ x).toArray) (n:=1) help hy rfl zI;simpa[encZ]using this)) ?_;refine B 8 ?_;refine nSb (f:=158) (cap:=[]) rfl call158 rfl rfl rfl (λW hS=>valid_2 x y W) ?_;refine B 3 ?_;refine zCD ?_ ?_
  ·intro hc3;refine B 11 ?_;refine retO (.inl rfl) results159 (RS.t rfl (RS.n)) A0 zL ?_;exact congrArg Value.bool zad
  intro hc3;refine zpg ?_;refine PJ.again (j+1) ⟨by omega,hto.next hx hy zwb⟩ zG zR rfl rfl zS
 intro hc2;refine B 11 ?_;refine retV results159 rfl A0 ?_;exact congrArg Value.bool zad
variable {g:Gp}
theorem nOb:vldB g=true↔vldP g:=by unfold vldB;simp
theorem nKd(h:¬vldP g):Value.bool false= .bool (vldB g):=congrArg Value.bool (by
 cases e:vldB g with
 |false=>rfl
 |true=>exact absurd (nOb.1 e) h)
theorem nEm(h1:FdOk g.folder/\0<=g.epoch/\g.epoch<=1099511627776/\trI g.ns=0)(h2:¬(g.epoch=0/\(0<g.ms.length\/eqD g.last (λ_=>0)=false)))(h3:g.ms.map (·.dev)=memL g.ns):Value.bool (!g.ms.any (n0d g.epoch))= .bool (vldB g):=congrArg Value.bool (by
 by_cases h:g.ms.any (n0d g.epoch)=false
 ·rw[h,nOb.2 ⟨h1,h2,h3,h⟩];rfl
 cases e:vldB g with
 |false=>simpa using h
 |true=>exact absurd (nOb.1 e).2.2.2 h)
theorem nI(G:Gv)(N:Nat)(w:World)(hN:N<=w.heap.size)(hG:GvAt N w G):Calls prog 110 #[.agg (gpA G)] w (Ret w (.bool (vldB G.g))):=by
 have hn:G.g.ns.length<=100000:=by have:=hG.nn;omega
 have hml:G.g.ms.length<=1000000:=by have:=hG.mn;omega
 have hsl:=hG.ns;refine enter (vs:=[_]) func110 rfl ntmps110 rfl ?_;refine B 3 ?_;intro b1 w1 hb1 ha1 ho1 hm1 hz1;replace ha1:=yb ha1;replace ho1:=yc ho1;refine B 8 ?_;refine call call155 rfl rfl rfl (λW hS=>n3k _ W) ?_;refine B 2 ?_;refine nf (t:=9) rfl (λhc1=>?_) (λhc1=>?_)
 ·replace hc1:=ya hc1;refine B 25 ?_;refine retV results110 rfl A1 ?_;exact nKd (λh=>hc1 h.1.1)
 replace hc1:=ya hc1;refine B 5 ?_;refine nf (t:=14) rfl (λhc2=>?_) (λhc2=>?_)
 ·replace hc2:=ya hc2;refine B 20 ?_;refine retV results110 rfl A1 ?_;exact nKd (λh=>by have:=h.1.2.1;omega)
 replace hc2:=ya hc2;refine B 5 ?_;refine nf (t:=19) rfl (λhc3=>?_) (λhc3=>?_)
 ·replace hc3:=ya hc3;refine B 15 ?_;refine retV results110 rfl A1 ?_;exact nKd (λh=>by have:=h.1.2.2.1;omega)
 replace hc3:=ya hc3;refine B 1 ?_;refine rv rfl rfl rfl (RV.re (v':=.agg #[.slice G.na G.g.ns.length G.nc]) (ldRA_r isAgg60 sizeOf60 rfl A0 hb1 hm1 trivial (apo rfl)) (rfl)) ?_;refine call call156 rfl rfl rfl (λW hS=>nHb G.g.ns hn N G.na G.nc W (aco hN (hS.links w A1).size) (hsl.up (abo _) (hS.same A1 hN zN z6))) ?_;refine B 4 ?_;refine zCD ?_ ?_
 ·intro hc4;refine B 7 ?_;refine retV results110 rfl A1 ?_;exact nKd (λh=>hc4 h.1.2.2.2)
 intro hc4;refine B 9 ?_;refine nf (t:=28) rfl (λhc5=>?_) (λhc5=>?_)
 ·replace hc5:=ya hc5;refine B 5 ?_;refine nf (t:=33) rfl (λhc6=>?_) (λhc6=>?_)
  ·replace hc6:=ya hc6;refine B 16 ?_;refine retV results110 rfl A1 ?_;exact nKd (λh=>h.2.1 ⟨hc5,.inl zG⟩)
  replace hc6:=ya hc6;refine B 1 ?_;refine rv rfl rfl rfl (ldRA_r isAgg43 sizeOf43 rfl A0 hb1 hm1 trivial (apo rfl)) ?_;refine B 1 ?_;refine rv rfl rfl rfl (RV.re (v':=.bool (!eqD G.g.last (λ_=>0))) (neqA_r nUb zI nob rfl rfl rfl) rfl) ?_;refine B 4 ?_;refine zCD ?_ ?_
  ·intro hc7;refine B 7 ?_;refine retV results110 rfl A1 ?_;exact nKd (λh=>h.2.1 ⟨hc5,.inr hc7⟩)
  intro hc7;refine B 14 ?_;by_cases h1:G.g.ms.map (·.dev)=memL G.g.ns
  ·refine z7d ?_;refine nJ 11 [4] [([],some _),([0],some (.slice G.ma G.g.ms.length G.mc)),([],some _),([2],some (.agg #[.slice G.na G.g.ns.length G.nc])),([3],none),([],some _),([1,4,5],some (.bool true)),([6],some _),([7],some _),([7,8],some _),([7],some _)] (λcv L' H'=>match cv with| []=>L'=[w1,w]/\H'=[]| [v1]=>∃(a7:Option Addr) (c7:Nat) (w7:World),v1= .slice a7 (memL G.g.ns).length c7/\L'=[w7,w1,w]/\H'=[]/\SlAt (λx=>(encZ x).toArray) 1 w7.heap.size w7 a7 (memL G.g.ns)|_=>False) zM ⟨rfl,rfl⟩ zM zM zM zM zM zM (pc zBb (pc zcm (pc zAb (pc zcm (pk (pc zP (pc (λcv L' H' hd hP=>match cv,hd,hP with| [],hd,hP=>(absurd (show false=true from hd) zI)| [v1],hd,hP=>zdd|_::_::_,_,hP=>hP.elim) (pc zP (pc zBb (pc zcm (pc zP (pn)))))))))))) ?_ ?_
   ·exact zbi
   intro cv L' H' hl hP;obtain⟨v1,rfl⟩:=len1 hl;obtain⟨a7,c7,w7,rfl,rfl,rfl,hsl7⟩:=hP;refine zbf ?_;refine B 6 ?_;refine retV results110 rfl A2 ?_;exact nEm ⟨hc1,by omega,by omega,hc4⟩ (λh=>h.2.elim (λh=>by omega) (λh=>by rw[hc7]at h;cases h)) h1
  exact z6h
 replace hc5:=ya hc5;refine B 28 ?_;by_cases h1:G.g.ms.map (·.dev)=memL G.g.ns
 ·refine z7d ?_;refine nJ 11 [4] [([],some _),([0],some (.slice G.ma G.g.ms.length G.mc)),([],some _),([2],some (.agg #[.slice G.na G.g.ns.length G.nc])),([3],none),([],some _),([1,4,5],some (.bool true)),([6],some _),([7],some _),([7,8],some _),([7],some _)] (λcv L' H'=>match cv with| []=>L'=[w1,w]/\H'=[]| [v1]=>∃(a7:Option Addr) (c7:Nat) (w7:World),v1= .slice a7 (memL G.g.ns).length c7/\L'=[w7,w1,w]/\H'=[]/\SlAt (λx=>(encZ x).toArray) 1 w7.heap.size w7 a7 (memL G.g.ns)|_=>False) zM ⟨rfl,rfl⟩ zM zM zM zM zM zM (pc zBb (pc zcm (pc zAb (pc zcm (pk (pc zP (pc (λcv L' H' hd hP=>match cv,hd,hP with| [],hd,hP=>(absurd (show false=true from hd) zI)| [v1],hd,hP=>zdd|_::_::_,_,hP=>hP.elim) (pc zP (pc zBb (pc zcm (pc zP (pn)))))))))))) ?_ ?_
  ·exact zbi
  intro cv L' H' hl hP;obtain⟨v1,rfl⟩:=len1 hl;obtain⟨a7,c7,w7,rfl,rfl,rfl,hsl7⟩:=hP;refine zbf ?_;refine B 6 ?_;refine retV results110 rfl A2 ?_;exact nEm ⟨hc1,by omega,by omega,hc4⟩ (λh=>hc5 h.1) h1
 exact z6h
end Px
