/- Contracts of functions of the program, each walked once. No condition beyond those that each theorem states. -/
import Derived.Test.YtidnomjiienllaaGreatDoorKg
import Derived.Test.YtidnomjiienllaaGreatDoorProg
import Derived.Test.YtidnomjiienllaaGreatDoorLa
set_option linter.unusedSimpArgs false
set_option linter.unusedVariables false
set_option linter.unusedSectionVars false
set_option maxRecDepth 20000
set_option maxHeartbeats 8000000
namespace Px
open Go Go.RowKit Go.Proofs Go.Proofs.Tryz
def padC:Array Value:=#[.int .i64 64,.int .i64 256,.int .i64 1024,.int .i64 4096,.int .i64 16384,.int .i64 65536]
def GlbP (w:World):Prop:=∃t fr,w.heap[1]? =some (.cells padC t fr)
variable {C:Cx} {R:Ending->World->Prop} {E:Env} {e:Exit} {Z:Fx} {G:Gh} {H:Heap} {d pf:Int} {D:List Deferred} {del:List Dk} {fos:List Fo} {gs:List Gv} {its:List It} {L:List World} {N N' b i j k:Nat} {fr:Nat×Nat} {f:Nat->Int} {x:Operand} {q:Option ((Nat×Mq)×List Gv)} {W w' w1:World}
theorem GlbP.old{w:World}(h:GlbP w)(hg:Glb w)(hS:St G L H W)(hw:w∈L)(hX:∀k,k<3->¬G.X k)(hH:Over 3 H):GlbP W:=by
 have hs:=hS.same hw hg.lt hX hH;obtain⟨t,fr,h1⟩:=h;exact⟨t,fr,(hs 1 zG).trans h1⟩
def padV (s:Int):Int:=if 0<=s/\s<6 then([64,256,1024,4096,16384,65536]:List Int).getD s.toNat 0 else 0
def padE (s:Int):Int:=if 0<=s/\s<6 then 0 else 280
theorem nQg{s:Int}(h:¬(0<=s/\s<6)):padV s=0:=if_neg h
theorem n6i{s:Int}(h:¬(0<=s/\s<6)):padE s=280:=if_neg h
theorem nyh{s:Int}(h:0<=s/\s<6):padE s=0:=if_pos h
theorem six{s:Int}(h:0<=s/\s<6):s=0\/s=1\/s=2\/s=3\/s=4\/s=5:=by omega
theorem padV_bd(s:Int):0<=padV s/\padV s<=65536:=by
 by_cases h:0<=s/\s<6
 ·rcases six h with rfl|rfl|rfl|rfl|rfl|rfl<;>decide
 rw[nQg h];omega
theorem padT_at{s:Int}(h:0<=s/\s<6):padC[0+s.toNat*1]? =some (.int .i64 (padV s)):=by
 rcases six h with rfl|rfl|rfl|rfl|rfl|rfl<;>rfl
def numB (a b c d:Int):Bool:=decide (0<=a/\a<16/\0<=b/\b<512/\1<=c/\c<=1048576/\(d=1\/d=2))
open Classical in
noncomputable def pxI (a b:Int):Int:=if GOk a/\GOk b then 0 else 110
def cpA (a b:Int) (f:Nat->Int):Array Value:=#[.int .i64 a,.int .i64 b,.int .u8 (f 0),.int .u8 (f 1),.int .u8 (f 2),.int .u8 (f 3),.int .u8 (f 4),.int .u8 (f 5),.int .u8 (f 6),.int .u8 (f 7),.int .u8 (f 8),.int .u8 (f 9),.int .u8 (f 10),.int .u8 (f 11),.int .u8 (f 12),.int .u8 (f 13),.int .u8 (f 14),.int .u8 (f 15),.int .u8 (f 16),.int .u8 (f 17),.int .u8 (f 18),.int .u8 (f 19),.int .u8 (f 20),.int .u8 (f 21),.int .u8 (f 22),.int .u8 (f 23),.int .u8 (f 24),.int .u8 (f 25),.int .u8 (f 26),.int .u8 (f 27),.int .u8 (f 28),.int .u8 (f 29),.int .u8 (f 30),.int .u8 (f 31)]
theorem n9m(s:Int)(w:World)(hgp:GlbP w):Calls prog 85 #[.int .i64 s] w (Ret w (.tuple #[.int .i64 (padV s),.int .i64 (padE s)])):=by
 obtain⟨tg,frg,hgb⟩:=hgp;have hgl:=(ago.1 hgb).1;refine enter (vs:=[_]) func85 rfl ntmps85 rfl ?_;refine B 12 ?_;refine nf (t:=6) rfl (λhc1=>?_) (λhc1=>?_)
 ·replace hc1:=ya hc1;refine B 14 ?_;exact zKi
 replace hc1:=ya hc1;refine B 5 ?_;refine zCD ?_ ?_
 ·intro hc2;refine B 8 ?_;exact zKi
 intro hc2;refine B 6 ?_;refine rv rfl rfl rfl (ldR_r (v:=.int .i64 (padV s)) isAgg3 rfl A0 hgb zO trivial (padT_at ⟨by omega,by omega⟩)) ?_;refine B 5 ?_;exact zKi
theorem n6j(a b c d:Int)(w:World):Calls prog 86 #[.int .i64 a,.int .i64 b,.int .i64 c,.int .i64 d] w (Ret w (.bool (numB a b c d))):=by
 refine enter (vs:=[_,_,_,_]) func86 rfl ntmps86 rfl ?_;refine B 10 ?_;refine nf (t:=11) rfl (λhc1=>?_) (λhc1=>?_)
 ·replace hc1:=ya hc1;refine B 4 ?_;refine nf (t:=15) rfl (λhc2=>?_) (λhc2=>?_)
  ·replace hc2:=ya hc2;refine B 4 ?_;refine nf (t:=19) rfl (λhc3=>?_) (λhc3=>?_)
   ·replace hc3:=ya hc3;refine B 4 ?_;refine nf (t:=23) rfl (λhc4=>?_) (λhc4=>?_)
    ·replace hc4:=ya hc4;refine B 4 ?_;refine nf (t:=27) rfl (λhc5=>?_) (λhc5=>?_)
     ·replace hc5:=ya hc5;refine B 4 ?_;refine nf (t:=31) rfl (λhc6=>?_) (λhc6=>?_)
      ·replace hc6:=ya hc6;refine B 3 ?_;refine nf (t:=34) rfl (λhc7=>?_) (λhc7=>?_)
       ·replace hc7:=ya hc7;refine B 8 ?_;exact zAi
       replace hc7:=ya hc7;refine B 8 ?_;exact zAi
      replace hc6:=ya hc6;refine B 11 ?_;exact zAi
     replace hc5:=ya hc5;refine B 15 ?_;exact zAi
    replace hc4:=ya hc4;refine B 19 ?_;exact zAi
   replace hc3:=ya hc3;refine B 23 ?_;exact zAi
  replace hc2:=ya hc2;refine B 27 ?_;exact zAi
 replace hc1:=ya hc1;refine B 31 ?_;exact zAi
theorem nKl(a b:Int)(f:Nat->Int)(w:World):Calls prog 87 #[.agg (cpA a b f)] w (Ret w (.int .i64 (pxI a b))):=by
 refine enter (vs:=[_]) func87 rfl ntmps87 rfl ?_;refine B 3 ?_;intro b1 w1 hb1 ha1 ho1 hm1 hz1;replace ha1:=yb ha1;replace ho1:=yc ho1;refine B 8 ?_;refine call call98 rfl rfl rfl (λW hS=>nD _ W) ?_;refine B 2 ?_;refine nf (t:=7) rfl (λhc1=>?_) (λhc1=>?_)
 ·replace hc1:=ya hc1;refine B 15 ?_;exact zmj
 replace hc1:=ya hc1;refine B 2 ?_;refine call call98 rfl rfl rfl (λW hS=>nD _ W) ?_;refine B 4 ?_;refine zCD ?_ ?_
 ·intro hc2;refine B 7 ?_;exact zmj
 intro hc2;refine B 8 ?_;exact zmj
noncomputable def itB (x:It):Bool:=numB x.folder x.device x.counter x.kind&&decide (padE x.size=0)&&decide (pxI x.ca x.cb=0)&&decide ((x.body.length:Int)=padV x.size+16)
def fdAn (x:It) (b1:Nat):List An:=[.i x.folder,.i x.device,.i x.counter,.i x.kind,.i x.size,.b (some ⟨b1,1,none⟩) (dgU x.commit) 32,.i x.ca,.i x.cb,.b (some ⟨b1,39,none⟩) (dgU x.pad) 32]
def fdF (x:It):List Fv:=[.int x.folder,.int x.device,.int x.counter,.int x.kind,.int x.size,.text (dgU x.commit),.int x.ca,.int x.cb,.text (dgU x.pad)]
def sgAn (x:It):List An:=[.b x.ba x.body x.bc,.i x.sr,.i x.ss]
def sgF (x:It):List Fv:=[.text x.body,.int x.sr,.int x.ss]
def itF (x:It):List Fv:=fdF x++sgF x
def itV (x:It):List V:=(itF x).map Fv.v
structure ItGood (x:It):Prop where
 fine:V.fineL (itV x)
 cb:Byt x.commit
 pb:Byt x.pad
noncomputable def itID (Z:Fx) (x:It):Nat->Int:=if itB x=true then Z.tg (⟨#[105,116,101,109]⟩:ByteArray) (V.list (itV x)).enc else Z.tg (⟨#[105,116,101,109]⟩:ByteArray) []
theorem anRow{w:World}{t:Nat}{ys:List An}(h:w.heap[b]? =some (.cells (ys.map anV).toArray t fr))(hN:b<N):SlAt anA 1 N w (some ⟨b,0,none⟩) ys:=by
 refine .inr ⟨b,0,_,t,fr,rfl,hN,h,λi hi=>⟨by simp;omega,?_⟩⟩;unfold cut anA;rw[aVo,arp];apply Array.ext';simp only[List.toList_toArray];rw[aWo zMc,aup,List.take_zero,aBo]
theorem perm3{α:Type}(X A B:List α):(X++(A++(B++[]))).Perm (A++(B++(X++[]))):=by
 rw[asp,asp,<-a2o A B X];exact List.perm_append_comm
theorem nig(x:It)(w:World)(hg:Glb w)(hgp:GlbP w):Calls prog 51 #[.agg (itA x)] w (Ret w (.bool (itB x))):=by
 have hg4:=hg.lt;have hpv:=padV_bd x.size;refine enter (vs:=[_]) func51 rfl ntmps51 rfl ?_;refine B 3 ?_;intro b1 w1 hb1 ha1 ho1 hm1 hz1;replace ha1:=yb ha1;replace ho1:=yc ho1;refine B 8 ?_;refine call call85 rfl rfl rfl (λW hS=>n9m x.size W (hgp.old hg hS A1 zN zH)) ?_;refine B 21 ?_;refine call call86 rfl rfl rfl (λW hS=>n6j _ _ _ _ W) ?_;refine B 1 ?_;refine nf (t:=25) rfl (λhc1=>?_) (λhc1=>?_)
 ·replace hc1:=ya hc1;refine B 4 ?_;refine nf (t:=29) rfl (λhc2=>?_) (λhc2=>?_)
  ·replace hc2:=ya hc2;refine B 2 ?_;refine rv rfl rfl rfl (RV.re (v':=.agg (cpA x.ca x.cb x.pad)) (ldRA_r isAgg51 sizeOf51 rfl A0 hb1 hm1 trivial (apo rfl)) (rfl)) ?_;refine call call87 rfl rfl rfl (λW hS=>nKl _ _ x.pad W) ?_;refine B 3 ?_;refine nf (t:=36) rfl (λhc3=>?_) (λhc3=>?_)
   ·replace hc3:=ya hc3;refine B 12 ?_;exact z0i
   replace hc3:=ya hc3;refine B 12 ?_;exact z0i
  replace hc2:=ya hc2;refine B 19 ?_;exact z0i
 replace hc1:=ya hc1;refine B 23 ?_;exact z0i
theorem n0j(x:It)(hcb:Byt x.commit)(hpb:Byt x.pad)(w:World):Calls prog 52 #[.agg (itA x)] w (nC w fvE 4 149 (fdF x) (λs=>.agg #[.int .i64 3,.int .i64 0,.string ⟨#[]⟩,s])):=by
 refine enter (vs:=[_]) func52 rfl ntmps52 rfl ?_;refine B 3 ?_;intro b1 w1 hb1 ha1 ho1 hm1 hz1;replace ha1:=yb ha1;replace ho1:=yc ho1;refine zqf ?_;intro b2 ha2 ho2;replace ha2:=yb ha2;replace ho2:=yc ho2;refine B 3 ?_;refine CJ.less (E':=[(0,_),(1,_),(2,_)]) zR ?_;refine nw 39 ((.det [] _)::(.det [0] _)::(.det [1] _)::(.det [2] _)::(.det [] _)::(.det [4] _)::(.det [5] _)::(.det [6] _)::(.det [] _)::(.det [8] _)::(.det [9] _)::(.det [10] _)::(.det [] _)::(.det [12] _)::(.det [13] _)::(.det [14] _)::(.det [] _)::(.det [16] _)::(.det [17] _)::(.det [18] _)::(.det [] _)::(.det [20] _)::(.det [21] _)::(.det [22] _)::(.det [] _)::(.det [24] _)::(.det [25] _)::(.det [26] _)::(.det [27] _)::(.det [] _)::(.det [29] _)::(.det [30] _)::(.det [31] _)::(.det [32] _)::(.det [] _)::(.det [34] _)::(.det [35] _)::(.det [36] _)::(.det [37] _)::[]) zM (xc zib (xc zIb (xc (by exact λvals=>X.val rfl rfl (RV.re (v':=.int .i64 x.folder) (ldR_r isAgg3 rfl A0 hb1 hm1 zF rfl) (rfl)) (λ_ _=>rfl)) (xc (by exact λvals=>X.val rfl rfl (mkIf_r (v:=.int .i64 x.folder) con3 rfl) (λ_ _=>rfl)) (xc zib (xc zIb (xc (by exact λvals=>X.val rfl rfl (RV.re (v':=.int .i64 x.device) (ldR_r isAgg3 rfl A0 hb1 hm1 zF rfl) (rfl)) (λ_ _=>rfl)) (xc (by exact λvals=>X.val rfl rfl (mkIf_r (v:=.int .i64 x.device) con3 rfl) (λ_ _=>rfl)) (xc zib (xc zIb (xc (by exact λvals=>X.val rfl rfl (RV.re (v':=.int .i64 x.counter) (ldR_r isAgg3 rfl A0 hb1 hm1 zF rfl) (rfl)) (λ_ _=>rfl)) (xc (by exact λvals=>X.val rfl rfl (mkIf_r (v:=.int .i64 x.counter) con3 rfl) (λ_ _=>rfl)) (xc zib (xc zIb (xc (by exact λvals=>X.val rfl rfl (RV.re (v':=.int .i64 x.kind) (ldR_r isAgg3 rfl A0 hb1 hm1 zF rfl) (rfl)) (λ_ _=>rfl)) (xc (by exact λvals=>X.val rfl rfl (mkIf_r (v:=.int .i64 x.kind) con3 rfl) (λ_ _=>rfl)) (xc zib (xc zIb (xc (by exact λvals=>X.val rfl rfl (RV.re (v':=.int .i64 x.size) (ldR_r isAgg3 rfl A0 hb1 hm1 zF rfl) (rfl)) (λ_ _=>rfl)) (xc (by exact λvals=>X.val rfl rfl (mkIf_r (v:=.int .i64 x.size) con3 rfl) (λ_ _=>rfl)) (xc zib (xc (by exact λvals=>X.val rfl rfl (fld_r underlying56 rfl sizeOf43 rfl) (λ_ _=>rfl)) (xc (by exact λvals=>X.val rfl rfl (slA0_r (h:=32) underlying43 sizeOf5 rfl rfl zG) (λ_ _=>rfl)) (xc (by exact λvals=>X.val rfl rfl (mkIf_r (v:=.slice (some ⟨b1,1,none⟩) 32 32) con52 rfl) (λ_ _=>rfl)) (xc zib (xc zlc (xc (by exact λvals=>X.val rfl rfl (fld_r underlying51 rfl sizeOf3 rfl) (λ_ _=>rfl)) (xc (by exact λvals=>X.val rfl rfl (RV.re (v':=.int .i64 x.ca) (ldR_r isAgg3 rfl A0 hb1 hm1 zF rfl) (rfl)) (λ_ _=>rfl)) (xc (by exact λvals=>X.val rfl rfl (mkIf_r (v:=.int .i64 x.ca) con3 rfl) (λ_ _=>rfl)) (xc zib (xc zlc (xc (by exact λvals=>X.val rfl rfl (fld_r underlying51 rfl sizeOf3 rfl) (λ_ _=>rfl)) (xc (by exact λvals=>X.val rfl rfl (RV.re (v':=.int .i64 x.cb) (ldR_r isAgg3 rfl A0 hb1 hm1 zF rfl) (rfl)) (λ_ _=>rfl)) (xc (by exact λvals=>X.val rfl rfl (mkIf_r (v:=.int .i64 x.cb) con3 rfl) (λ_ _=>rfl)) (xc zib (xc zlc (xc (by exact λvals=>X.val rfl rfl (fld_r underlying51 rfl sizeOf49 rfl) (λ_ _=>rfl)) (xc (by exact λvals=>X.val rfl rfl (slA0_r (h:=32) underlying49 sizeOf5 rfl rfl zG) (λ_ _=>rfl)) (xc (by exact λvals=>X.val rfl rfl (mkIf_r (v:=.slice (some ⟨b1,39,none⟩) 32 32) con52 rfl) (λ_ _=>rfl)) (xn)))))))))))))))))))))))))))))))))))))))) zM zM zM (λvals=>?_)
 refine bslR underlying198 sizeOf20 zeroValue20 rfl rfl rfl rfl rfl rfl rfl ?_;intro b42 w42 hb42 ha42 ho42 hm42 hz42;replace ha42:=yb ha42;replace ho42:=yc ho42;refine ned (enc:=fvE) (m:=4) (t:=149) (xs:=fdF x) (v:=λs=>.agg #[.int .i64 3,.int .i64 0,.string ⟨#[]⟩,s]) (first:=[]) (cap:=[]) rfl call53 rfl rfl rfl (λW hS=>by
  have h1:=hS.old A1 hb1 hm1 zEc;have h4:=hS.old A0 hb42 hm42 zEc;have l1:=(ago.1 h1).1;refine nsi (fdAn x b1) (apo rfl) W.heap.size (some ⟨b42,0,none⟩) 9 W (abo _) (anRow h4 (ago.1 h4).1) (λy hy=>?_);simp only[fdAn,aeo,aCo,or_false]at hy;rcases hy with rfl|rfl|rfl|rfl|rfl|rfl|rfl|rfl|rfl;all_goals first|exact True.intro|exact .inr ⟨b1,1,rfl,l1,SegU.dgo h1 rfl (apo rfl) hcb⟩|exact .inr ⟨b1,39,rfl,l1,SegU.dgo h1 rfl (apo rfl) hpb⟩) ?_
 intro r hrf hrfit;have hrge:r.ge w.heap.size:=Rw.ge_of hrf A2;refine OJ.perm (H':=[(b2,.cells #[.int .i64 0,.int .i64 0,.string ⟨#[]⟩,.slice none 0 0] 149 (0,0))]++(r.hp fvE 149 (fdF x)++[])) zbc ?_;refine stWw (i:=0) rfl sizeOf149 rfl rfl rfl rfl rfl (by cases r<;>rfl) ?_;refine B 3 ?_;exact nU (H0:=[(b2,.cells #[.int .i64 3,.int .i64 0,.string ⟨#[]⟩,r.val (fdF x).length] 149 (0,0))]) (H1:=[]) (r:=r) (.inl rfl) results52 (RS.wA (i:=0) rfl isAgg149 sizeOf149 rfl (apo rfl) RS.n) A2 (by simp only[adp,aEo,abp,asp,Over,and_true];exact⟨by omega,Rw.over hrge⟩) rfl hrfit hrge (by first|rfl|simp)
theorem nEn(x:It)(hx:ItGood x)(hbl:x.body.length<=1000000)(N:Nat)(w:World)(hN:N<=w.heap.size)(hby:ByAt N w x.ba x.body)(hg:Glb w)(hgp:GlbP w)(hv:itB x=false):Calls prog 25 #[.agg (itA x)] w (Ret w (.tuple #[.slice none 0 0,.int .i64 290])):=by
 have hg4:=hg.lt;refine enter (vs:=[_]) func25 rfl ntmps25 rfl ?_;refine B 3 ?_;intro b1 w1 hb1 ha1 ho1 hm1 hz1;replace ha1:=yb ha1;replace ho1:=yc ho1;refine B 6 ?_;refine zEf ?_;intro b4 ha4 ho4;replace ha4:=yb ha4;replace ho4:=yc ho4;refine stWw (i:=0) rfl sizeOf146 rfl rfl rfl rfl rfl rfl ?_;refine B 5 ?_;refine zNf ?_;refine call call51 rfl rfl rfl (λW hS=>by rw[<-hv];exact nig x W (hg.old hS A1 zN zH) (hgp.old hg hS A1 zN zH)) (v:=.bool false) ?_;refine zlf ?_;refine B 11 ?_;refine retO (.inl rfl) results25 (RS.t rfl (RS.t rfl (RS.n))) A1 zL ?_;rfl
theorem ntn(x:It)(hx:ItGood x)(hbl:x.body.length<=1000000)(N:Nat)(w:World)(hN:N<=w.heap.size)(hby:ByAt N w x.ba x.body)(hg:Glb w)(hgp:GlbP w)(hv:itB x=true):Calls prog 25 #[.agg (itA x)] w (nci w 5 (V.list (itV x)).enc):=by
 have hg4:=hg.lt;have hff:=nBe (itV x) (Fv.flat (itF x)) hx.fine (apo rfl);refine enter (vs:=[_]) func25 rfl ntmps25 rfl ?_;refine B 3 ?_;intro b1 w1 hb1 ha1 ho1 hm1 hz1;replace ha1:=yb ha1;replace ho1:=yc ho1;refine B 6 ?_;refine zEf ?_;intro b4 ha4 ho4;replace ha4:=yb ha4;replace ho4:=yc ho4;refine stWw (i:=0) rfl sizeOf146 rfl rfl rfl rfl rfl rfl ?_;refine B 5 ?_;refine zNf ?_;refine call call51 rfl rfl rfl (λW hS=>by rw[<-hv];exact nig x W (hg.old hS A1 zN zH) (hgp.old hg hS A1 zN zH)) (v:=.bool true) ?_;refine zmh ?_;refine B 7 ?_;refine zNf ?_;refine ned (enc:=fvE) (m:=4) (t:=149) (xs:=fdF x) (v:=λs=>.agg #[.int .i64 3,.int .i64 0,.string ⟨#[]⟩,s]) (first:=[]) (cap:=[]) rfl call52 rfl rfl rfl (λW hS=>n0j x hx.cb hx.pb W) ?_;intro r5 hrf5 hfit5;have hrge5:r5.ge w1.heap.size:=Rw.ge_of hrf5 A0;refine OJ.perm (H':=[(b4,.cells (itA x) 146 (0,0))]++(r5.hp fvE 149 (fdF x)++[])) zbc ?_;refine zqf ?_;intro b5 ha5 ho5;replace ha5:=yb ha5;replace ho5:=yc ho5;refine stWw (i:=0) rfl sizeOf149 rfl rfl rfl rfl rfl (by cases r5<;>rfl) ?_;refine B 3 ?_;refine CJ.less (E':=[(0,_),(1,_),(2,_),(3,_),(4,_),(5,_),(6,_),(7,_),(8,_),(9,_),(10,_),(11,_),(12,_)]) zR ?_;refine nJ 16 [13,14,15] [([],some _),([0],some (r5.val (fdF x).length)),([],some _),([2],some (.slice x.ba x.body.length x.bc)),([3],some (.iface 52 (.slice x.ba x.body.length x.bc))),([],some _),([5],some _),([6],some (.int .i64 x.sr)),([7],some (.iface 3 (.int .i64 x.sr))),([],some _),([9],some _),([10],some (.int .i64 x.ss)),([11],some (.iface 3 (.int .i64 x.ss))),([4,8,12],none),([13],none),([14],none)] (λcv L' H'=>match cv with| []=>L'=[w1,w]/\H'=[(b5,.cells #[.int .i64 3,.int .i64 0,.string ⟨#[]⟩,r5.val (fdF x).length] 149 (0,0)),(b4,.cells (itA x) 146 (0,0))]++(r5.hp fvE 149 (fdF x)++[])| [v1]=>∃(b26:Nat),v1= .slice (some ⟨b26,0,none⟩) 3 3/\L'=[w1,w]/\H'=[(b26,.cells #[.iface 52 (.slice x.ba x.body.length x.bc),.iface 3 (.int .i64 x.sr),.iface 3 (.int .i64 x.ss)] 20 (0,0)),(b5,.cells #[.int .i64 3,.int .i64 0,.string ⟨#[]⟩,r5.val (fdF x).length] 149 (0,0)),(b4,.cells (itA x) 146 (0,0))]++(r5.hp fvE 149 (fdF x)++[])/\w1.heap.size<=b26| [v1,v2]=>∃(b26:Nat) (b27:Nat) (cp27:Nat) (sp27:List Value),v1= .slice (some ⟨b26,0,none⟩) 3 3/\v2= .agg #[.int .i64 3,.int .i64 0,.string ⟨#[]⟩,.slice (some ⟨b27,0,none⟩) 3 cp27]/\L'=[w1,w]/\H'=[(b26,.cells #[.iface 52 (.slice x.ba x.body.length x.bc),.iface 3 (.int .i64 x.sr),.iface 3 (.int .i64 x.ss)] 20 (0,0)),(b5,.cells #[.int .i64 3,.int .i64 0,.string ⟨#[]⟩,r5.val (fdF x).length] 149 (0,0)),(b4,.cells (itA x) 146 (0,0))]++(r5.hp fvE 149 (fdF x)++((Rw.row b27 cp27 sp27).hp fvE 149 (sgF x)++[]))/\w1.heap.size<=b26/\Rw.Fr Gh.no [w1,w] (Rw.row b27 cp27 sp27)/\(Rw.row b27 cp27 sp27).Fit 4 (sgF x)/\w1.heap.size<=b27| [v1,v2,v3]=>∃(b26:Nat) (b27:Nat) (cp27:Nat) (sp27:List Value),v1= .slice (some ⟨b26,0,none⟩) 3 3/\v2= .agg #[.int .i64 3,.int .i64 0,.string ⟨#[]⟩,.slice (some ⟨b27,0,none⟩) 3 cp27]/\v3= .slice (some ⟨b27,0,none⟩) 3 cp27/\L'=[w1,w]/\H'=[(b26,.cells #[.iface 52 (.slice x.ba x.body.length x.bc),.iface 3 (.int .i64 x.sr),.iface 3 (.int .i64 x.ss)] 20 (0,0)),(b5,.cells #[.int .i64 3,.int .i64 0,.string ⟨#[]⟩,r5.val (fdF x).length] 149 (0,0)),(b4,.cells (itA x) 146 (0,0))]++(r5.hp fvE 149 (fdF x)++((Rw.row b27 cp27 sp27).hp fvE 149 (sgF x)++[]))/\w1.heap.size<=b26/\Rw.Fr Gh.no [w1,w] (Rw.row b27 cp27 sp27)/\(Rw.row b27 cp27 sp27).Fit 4 (sgF x)/\w1.heap.size<=b27|_=>False) zM ⟨rfl,rfl⟩ zM zM zM zM zM zM (pc zzb (pc zcz (pc (by exact λcv L' H' hd hP=>X.val rfl rfl (fld_r underlying56 rfl sizeOf52 rfl) R2) (pc zcz (pc (by exact λcv L' H' hd hP=>X.val rfl rfl (mkIf_r con52 rfl) R2) (pc (by exact λcv L' H' hd hP=>X.val rfl rfl (fld_r underlying56 rfl sizeOf54 rfl) R2) (pc ztb (pc zcz (pc (by exact λcv L' H' hd hP=>X.val rfl rfl (mkIf_r con3 rfl) R2) (pc (by exact λcv L' H' hd hP=>X.val rfl rfl (fld_r underlying56 rfl sizeOf54 rfl) R2) (pc ztb (pc zcz (pc (by exact λcv L' H' hd hP=>X.val rfl rfl (mkIf_r con3 rfl) R2) (pk (pk (pk (pn))))))))))))))))) ?_ ?_
 ·refine sc rfl rfl rfl ?_ ?_
  ·intro cv L' H' hl hP F Q' hk;obtain rfl:=aap hl;obtain⟨rfl,rfl⟩:=hP;refine bslW underlying198 sizeOf20 zeroValue20 rfl rfl rfl rfl rfl rfl rfl ?_;intro b26 ha ho;exact OJ.done (hk _ _ _ ⟨b26,rfl,rfl,rfl,ha.mem w1 A0⟩)
  refine sc rfl rfl rfl ?_ ?_
  ·intro cv L' H' hl hP F Q' hk;obtain⟨v1,rfl⟩:=len1 hl;obtain⟨b26,rfl,rfl,rfl,ha26⟩:=hP;refine ned (enc:=fvE) (m:=4) (t:=149) (xs:=sgF x) (v:=λs=>.agg #[.int .i64 3,.int .i64 0,.string ⟨#[]⟩,s]) (first:=[]) (cap:=[]) rfl call53 rfl rfl rfl (λW hS=>by
    have h4:=hS.own (b26,_) A0;refine nsi (sgAn x) (apo rfl) W.heap.size (some ⟨b26,0,none⟩) 3 W (abo _) (anRow h4 (hS.lt (b26,_) A0)) (λy hy=>?_);simp only[sgAn,aeo,aCo,or_false]at hy;rcases hy with rfl|rfl|rfl
    ·exact(hby.up hN (λk hk=>rfl)).up (hS.links w A1).size (hS.same A1 (abo _) zN (by simp only[Over,nY,aEo,abp,asp,adp,and_true];(repeat' apply And.intro);all_goals first|omega|exact True.intro|exact Rw.over (Rw.ge_mono hrge5 zG)))
    ·exact True.intro
    exact True.intro) ?_
   intro r27 hrf27 hfit27;refine OJ.perm (perm3 (r27.hp fvE 149 (sgF x)) [(b26,.cells #[.iface 52 (.slice x.ba x.body.length x.bc),.iface 3 (.int .i64 x.sr),.iface 3 (.int .i64 x.ss)] 20 (0,0)),(b5,.cells #[.int .i64 3,.int .i64 0,.string ⟨#[]⟩,r5.val (fdF x).length] 149 (0,0)),(b4,.cells (itA x) 146 (0,0))] (r5.hp fvE 149 (fdF x))) ?_;cases r27 with
   |nil=>exact absurd hfit27 (by simp[Rw.Fit,sgF])
   |row b27 cp27 sp27=>exact OJ.done (hk _ _ _ ⟨b26,b27,cp27,sp27,rfl,rfl,rfl,rfl,ha26,hrf27,hfit27,Rw.ge_of hrf27 A0⟩)
  refine sc rfl rfl rfl ?_ ?_
  ·intro cv L' H' hl hP F Q' hk;obtain⟨v1,v2,rfl⟩:=len2 hl;obtain⟨b26,b27,cp27,sp27,rfl,rfl,rfl,rfl,ha26,hrf27,hfit27,hge27⟩:=hP;refine rv rfl rfl rfl (fldV_r underlying149 rfl isAgg147 rfl rfl) ?_;exact OJ.done (hk _ _ _ ⟨b26,b27,cp27,sp27,rfl,rfl,rfl,rfl,rfl,ha26,hrf27,hfit27,hge27⟩)
  exact sn
 intro cv L' H' hl hP;obtain⟨v1,v2,v3,rfl⟩:=len3 hl;obtain⟨b26,b27,cp27,sp27,rfl,rfl,rfl,rfl,rfl,ha26,hrf27,hfit27,hge27⟩:=hP;refine apT (r:=r5) (xs:=fdF x) (zs:=sgF x) (enc:=fvE) (m:=4) (H0:=[(b26,.cells #[.iface 52 (.slice x.ba x.body.length x.bc),.iface 3 (.int .i64 x.sr),.iface 3 (.int .i64 x.ss)] 20 (0,0)),(b5,.cells #[.int .i64 3,.int .i64 0,.string ⟨#[]⟩,r5.val (fdF x).length] 149 (0,0)),(b4,.cells (itA x) 146 (0,0))]) (H1:=(Rw.row b27 cp27 sp27).hp fvE 149 (sgF x)++[]) rfl ncf n7c rfl rfl rfl rfl (SrcT.at (zs:=sgF x) (cs:=(flt fvE (sgF x)++sp27).toArray) (t:=149) (fr:=(0,0)) n7c ncj underlying147 (λW hS=>hS.own (b27,rwO fvE 149 (sgF x) sp27) (azo.2 (.inr (azo.2 (.inr A0))))) (by rw[aVo,amp,aHo,n0 n7c];omega) (by rw[aop,<-n0 n7c (sgF x)];exact List.take_left)) hfit5 hrf5 (by simp[sgF]) (by simp[sgF,fdF]) ?_;intro b29 cp29 sp29 hf29 hfit29;replace hf29:=yb hf29;refine B 1 ?_;refine zQg ?_;refine B 4 ?_;refine rv rfl rfl rfl (RV.re (v':=vL (some ⟨b29,0,none⟩) (itV x).length cp29) (ldWAw_r (i:=1) rfl isAgg149 sizeOf149 rfl rfl) (rfl)) ?_;have hl29:(itV x).length<=cp29:=by have:=hfit29.1;simpa[itV,itF]using this
 refine nEg (ys:=(V.list (itV x)).enc) call54 rfl rfl rfl (λW hS=>nge (itV x) hff.1 hff.2.1 hff.2.2 W.heap.size (some ⟨b29,0,none⟩) cp29 W (abo _) (nOi (Fv.flat (itF x)) (hS.lt (b29,rwO fvE 149 (itF x) sp29) (by simp[itF])) hl29 (by unfold itV;rw[Fv.cells];exact hS.own (b29,rwO fvE 149 (itF x) sp29) (by simp[itF])))) ?_;intro b32 c32 s32 ha32 ho32 hx32 hr32;replace ha32:=yb ha32;refine B 7 ?_;exact retEnc (i:=0) (.inl rfl) results25 rfl rfl rfl A1 (by simp only[adp,a9o,aEo,abp,asp,Rw.hp,Over,nY,and_true];(repeat' apply And.intro);all_goals first|omega|exact True.intro|(have:=Rw.ge_of hrf27 (w:=w) A1;exact this)|(rcases hf29 with h|h;(have:=Rw.ge_at hrge5 h;omega);omega)) hr32
structure Po where
 fo:Int
 two:Bool
 la:Option Addr
 left:List Int
 lc:Nat
 ra:Option Addr
 right:List Int
 rc:Nat
 least:Int
 most:Int
def poC (p:Po):Array Value:=#[.int .i64 p.fo,.bool p.two,.slice p.la p.left.length p.lc,.slice p.ra p.right.length p.rc,.int .i64 p.least,.int .i64 p.most]
structure PoAt (N:Nat) (w:World) (p:Po):Prop where
 left:SlAt encI 1 N w p.la p.left
 right:SlAt encI 1 N w p.ra p.right
variable {p:Po}
theorem PoAt.up{w:World}(h:PoAt N w p)(hN:N<=N')(hw:∀k,k<N->w'.heap[k]? =w.heap[k]?):PoAt N' w' p:=⟨h.left.up hN hw,h.right.up hN hw⟩
structure PoFew (p:Po):Prop where
 left:p.left.length<=1000000
 right:p.right.length<=1000000
def FineTo (l:List Int) (n:Nat):Prop:=∀j x,j<n->l[j]? =some x->0<=x/\x<64/\∀y,0<j->l[j-1]? =some y->y<x
noncomputable def nDc (l:List Int):Bool:=@decide (FineTo l l.length) (Classical.propDecidable _)
theorem nbf{l:List Int}{x:Int}(hx:l[j]? =some x)(h:x<0\/64<=x):nDc l=false:=by
 refine @decide_eq_false _ (Classical.propDecidable _) λg=>?_;have:=g j x (nz hx) hx;omega
theorem n9e{l:List Int}{x y:Int}(hx:l[j]? =some x)(hy:l[j-1]? =some y)(hj:0<j)(h:x<=y):nDc l=false:=by
 refine @decide_eq_false _ (Classical.propDecidable _) λg=>?_;have:=(g j x (nz hx) hx).2.2 y hj hy;omega
theorem nfe{l:List Int}(h:FineTo l j)(hj:l.length<=j):nDc l=true:=@decide_eq_true _ (Classical.propDecidable _) λi x hi hx=>h i x zG hx
theorem FineTo.next{l:List Int}{x:Int}(h:FineTo l j)(hx:l[j]? =some x)(h0:0<=x)(h1:x<64)(h2:∀y,0<j->l[j-1]? =some y->y<x):FineTo l (j+1):=by
 intro i z hi hz;by_cases e:i=j
 ·subst e;obtain rfl:=Option.some.inj (hx.symm.trans hz);exact⟨h0,h1,h2⟩
 exact h i z zG hz
noncomputable def polB (p:Po):Bool:=decide (0<=p.fo)&&decide (p.fo<16)&&nDc p.left&&nDc p.right&&decide (0<=p.least)&&decide (p.least<=p.most)&&decide (p.most<=1099511627776)&& !(p.left.any λx=>decide (x∈p.right))
noncomputable def chkI (p:Po):Int:=if polB p then 0 else 460
theorem ng(p:Po)(h:p.fo<0\/16<=p.fo\/nDc p.left=false\/nDc p.right=false\/p.least<0\/p.most<p.least\/1099511627776<p.most\/(p.left.any λx=>decide (x∈p.right))=true):chkI p=460:=by
 unfold chkI polB;rw[if_neg];simp only[awo,decide_eq_true_eq,Bool.not_eq_true'];rintro⟨⟨⟨⟨⟨⟨⟨g1,g2⟩,g3⟩,g4⟩,g5⟩,g6⟩,g7⟩,g8⟩;rcases h with h|h|h|h|h|h|h|h
 ·omega
 ·omega
 ·rw[h]at g3;cases g3
 ·rw[h]at g4;cases g4
 ·omega
 ·omega
 ·omega
 rw[h]at g8;cases g8
theorem nlc(p:Po)(h1:0<=p.fo)(h2:p.fo<16)(h3:nDc p.left=true)(h4:nDc p.right=true)(h5:0<=p.least)(h6:p.least<=p.most)(h7:p.most<=1099511627776)(h8:(p.left.any λx=>decide (x∈p.right))=false):chkI p=0:=by
 unfold chkI polB;rw[if_pos];simp[h1,h2,h3,h4,h5,h6,h7,h8]
theorem chkI_two(p:Po):chkI p=0\/chkI p=460:=by unfold chkI;split<;>simp
theorem any_set(l r:List Int):(l.any λx=>decide (x∈setK r))=l.any λx=>decide (x∈r):=by
 congr 1;funext x;exact decide_eq_decide.2 (setK_mem r x)
theorem n9g(l:List Int)(hl:l.length<=1000000)(N:Nat)(a:Option Addr)(c:Nat)(w:World)(hN:N<=w.heap.size)(hsl:SlAt encI 1 N w a l):Calls prog 19 #[.slice a l.length c] w (Ret w (.bool (nDc l))):=by
 refine enter (vs:=[_]) func19 rfl ntmps19 rfl ?_;refine B 14 ?_;refine CJ.loop (α:=Nat) (λj=>[(0,.slice a l.length c),(5,.slice a l.length c),(6,.int .i64 (l.length:Int)),(7,.int .i64 (j:Int))]) (λj=>[]) (λj=>[w]) (λj=>Gh.no) (λj=>j<=l.length/\FineTo l j) (λj=>l.length-j) 0 ⟨a3o _,λi x hi=>absurd hi zG⟩ zR rfl rfl zS ?_;rintro j ⟨hj,hft⟩;refine B 6 ?_;refine zCD ?_ ?_
 ·intro hc1;refine B 5 ?_;obtain⟨b0,off0,cs0,t0,fr0,rfl,hbl0,hcs0,hel0⟩:=hsl.get zG;obtain⟨x,hx⟩:=nj l j zG;refine B 3 ?_;refine zVf ?_;refine B 9 ?_;refine nf (t:=14) rfl (λhc2=>?_) (λhc2=>?_)
  ·replace hc2:=ya hc2;refine B 30 ?_;exact zvi
  replace hc2:=ya hc2;refine B 4 ?_;refine nf (t:=18) rfl (λhc3=>?_) (λhc3=>?_)
  ·replace hc3:=ya hc3;refine B 26 ?_;exact zvi
  replace hc3:=ya hc3;refine B 3 ?_;refine nf (t:=21) rfl (λhc4=>?_) (λhc4=>?_)
  ·replace hc4:=ya hc4;refine B 4 ?_;obtain⟨y,hy⟩:=nj l (j-1) zG;refine rv rfl rfl rfl (ldR_r (v:=.int .i64 y) isAgg3 rfl A0 hcs0 zO trivial (nF hel0 hy zG zI)) ?_;refine B 6 ?_;refine zCD ?_ ?_
   ·intro hc5;refine B 11 ?_;exact zvi
   intro hc5;refine B 7 ?_;exact zlj
  replace hc4:=ya hc4;refine B 19 ?_;exact zlj
 intro hc1;refine B 11 ?_;exact zvi
theorem nkm(b:Nat)(ks:List Int)(k:Int)(w:World)(hb:w.heap[b]? =some (mpO (.agg #[]) ks)):Calls prog 35 #[.map (some b),.int .i64 k] w (RetM w (.tuple #[]) b (mpO (.agg #[]) (putK ks k))):=by
 refine nT Gh.no [(b,_)] (vs:=[_,_]) func35 rfl ntmps35 rfl (ngg hb) ?_;refine B 3 ?_;refine rv rfl rfl rfl (bldS_r underlying138 zeroValue138 (PlF.n) rfl rfl) ?_;refine mputW (i:=0) rfl underlying90 underlying3 rfl rfl rfl rfl ?_;refine B 1 ?_;refine retG (.inr rfl) results35 RS.n (λW hS=>⟨rfl,(hS.links w A0).mono λk _ hk=>?_,hS.own _ A0⟩);simpa[Gh.no]using hk
theorem set_has(b:Nat)(ks:List Int)(k:Int)(w:World)(hb:w.heap[b]? =some (mpO (.agg #[]) ks)):Calls prog 22 #[.map (some b),.int .i64 k] w (Ret w (.bool (decide (k∈ks)))):=by
 refine enter (vs:=[_,_]) func22 rfl ntmps22 rfl ?_;refine B 9 ?_;refine rv rfl rfl rfl (RV.re (v':=.tuple #[.agg #[],.bool (decide (k∈ks))]) (mlook_r underlying90 underlying3 zeroValue138 (Lies.old A0 hb zO trivial) rfl rfl) (by rw[ite_self])) ?_;refine B 3 ?_;refine allW zeroValue138 rfl rfl ?_;intro b5 ha5 ho5;replace ha5:=yb ha5;replace ho5:=yc ho5;refine z5g ?_;refine B 10 ?_;refine retO (.inl rfl) results22 (RS.t rfl (RS.n)) A0 zL ?_;rfl
theorem nkb(l:List Int)(hl:l.length<=1000000)(N:Nat)(a:Option Addr)(c:Nat)(w:World)(hN:N<=w.heap.size)(hsl:SlAt encI 1 N w a l):Calls prog 21 #[.slice a l.length c] w (RetX w (λb:Nat=>.map (some b)) (λb w1=>w.heap.size<=b/\w1.heap[b]? =some (mpO (.agg #[]) (setK l)))):=by
 refine enter (vs:=[_]) func21 rfl ntmps21 rfl ?_;refine B 7 ?_;refine zUg ?_;intro b6 ha6 ho6;replace ha6:=yb ha6;replace ho6:=yc ho6;refine B 12 ?_;refine CJ.loop (α:=Nat) (λj=>[(3,.map (some b6)),(7,.slice a l.length c),(8,.int .i64 (l.length:Int)),(9,.int .i64 (j:Int))]) (λj=>[(b6,mpO (.agg #[]) (setK (l.take j)))]) (λj=>[w]) (λj=>Gh.no) (λj=>j<=l.length) (λj=>l.length-j) 0 (a3o _) zR rfl rfl zS ?_;rintro j hj;refine B 6 ?_;refine zCD ?_ ?_
 ·intro hc1;refine B 5 ?_;obtain⟨b0,off0,cs0,t0,fr0,rfl,hbl0,hcs0,hel0⟩:=hsl.get zG;obtain⟨x,hx⟩:=nj l j zG;refine B 2 ?_;refine rv rfl rfl rfl (ldR_r (v:=.int .i64 x) isAgg3 rfl A0 hcs0 zO zsc (nF hel0 hx rfl zI)) ?_;refine B 6 ?_;refine nMc (f:=35) (i:=0) (first:=[]) (cap:=[]) rfl rfl call35 rfl rfl rfl (λW hS hW=>nkm b6 _ x W hW) ?_;refine OJ.reH (H':=[(b6,mpO (.agg #[]) (setK (l.take (j+1))))]) (by rw[np hx,nnj];rfl) ?_;refine B 7 ?_;exact zFi
 intro hc1;refine B 12 ?_;exact retG (.inl rfl) results21 (RS.t rfl RS.n) (λW hS=>⟨b6,rfl,hS.base A0 zL,by omega,by have:=hS.own _ A0;rw[afp zG]at this;exact this⟩)
theorem nck(l:List Int)(hl:l.length<=1000000)(N:Nat)(a:Option Addr)(c:Nat)(w:World)(hN:N<=w.heap.size)(hsl:SlAt encI 1 N w a l)(b:Nat)(ks:List Int)(hb:w.heap[b]? =some (mpO (.agg #[]) ks)):Calls prog 46 #[.slice a l.length c,.func (.func 22) #[.map (some b)] #[]] w (Ret w (.int .i64 (ixOf (λx=>decide (x∈ks)) l))):=by
 refine zHg ?_;refine CJ.loop (α:=Nat) (λj=>[(0,.slice a l.length c),(1,.func (.func 22) #[.map (some b)] #[]),(7,.int .i64 (l.length:Int)),(8,.int .i64 (j:Int))]) (λj=>[]) (λj=>[w]) (λj=>Gh.no) (λj=>j<=l.length/\∀x∈l.take j,(λx=>decide (x∈ks)) x=false) (λj=>l.length-j) 0 ⟨a3o _,by simp⟩ zR rfl rfl zS ?_;rintro j ⟨hj,hjp⟩;refine B 6 ?_;refine zCD ?_ ?_
 ·intro hc1;refine B 11 ?_;obtain⟨b0,off0,cs0,t0,fr0,rfl,hbl0,hcs0,hel0⟩:=hsl.get zG;obtain⟨x,hx⟩:=nj l j zG;refine B 5 ?_;refine zVf ?_;refine callF (first:=[.map (some b)]) (cap:=[]) rfl call22 rfl rfl rfl (λW hS=>set_has b ks x W (hS.old A0 hb zO trivial)) ?_;refine B 2 ?_;refine zCD ?_ ?_
  ·intro hc2;refine B 12 ?_;refine retV results46 rfl A0 ?_;exact congrArg (Value.int .i64) (nlk (λx=>decide (x∈ks)) l j zG hjp (by obtain⟨h1,h2⟩:=ako.1 hx;rw[h2];exact decide_eq_true hc2)).symm
  intro hc2;refine B 7 ?_;refine PJ.again (j+1) ⟨by omega,by intro z hz;rw[np hx]at hz;simp only[azo,agp]at hz;rcases hz with hz|rfl;exact hjp z hz;exact decide_eq_false hc2⟩ zG zR rfl rfl zS
 intro hc1;refine B 11 ?_;refine retV results46 rfl A0 ?_;exact congrArg (Value.int .i64) (nCj (λx=>decide (x∈ks)) l (by rw[<-afp (l:=l) (i:=j) zG];exact hjp)).symm
theorem nHh(l:List Int)(hl:l.length<=1000000)(N:Nat)(a:Option Addr)(c:Nat)(w:World)(hN:N<=w.heap.size)(hsl:SlAt encI 1 N w a l)(b:Nat)(ks:List Int)(hb:w.heap[b]? =some (mpO (.agg #[]) ks)):Calls prog 20 #[.slice a l.length c,.func (.func 22) #[.map (some b)] #[]] w (Ret w (.bool (l.any (λx=>decide (x∈ks))))):=by
 refine zsh ?_;refine call call46 rfl rfl rfl (λW hS=>nck l hl N a c W (aco hN (hS.links _ A0).size) (hsl.up (abo _) (hS.same A0 hN zN True.intro)) b ks (hS.old A0 hb zO trivial)) ?_;refine B 5 ?_;refine retV results20 rfl A0 ?_;exact congrArg Value.bool (nvl (λx=>decide (x∈ks)) l)
theorem nyb(p:Po)(hf:PoFew p)(N:Nat)(w:World)(hN:N<=w.heap.size)(hp:PoAt N w p):Calls prog 7 #[.agg (poC p)] w (Ret w (.int .i64 (chkI p))):=by
 refine enter (vs:=[_]) func7 rfl ntmps7 rfl ?_;refine B 3 ?_;intro b1 w1 hb1 ha1 ho1 hm1 hz1;replace ha1:=yb ha1;replace ho1:=yc ho1;refine B 10 ?_;refine nf (t:=6) rfl (λhc1=>?_) (λhc1=>?_)
 ·replace hc1:=ya hc1;refine B 43 ?_;exact zak
 replace hc1:=ya hc1;refine B 5 ?_;refine nf (t:=11) rfl (λhc2=>?_) (λhc2=>?_)
 ·replace hc2:=ya hc2;refine B 38 ?_;exact zak
 replace hc2:=ya hc2;refine B 2 ?_;refine call call19 rfl rfl rfl (λW hS=>n9g p.left hf.left N p.la p.lc W (aco hN (hS.links _ A1).size) (hp.left.up (abo _) (hS.same A1 hN zN zH))) ?_;refine B 3 ?_;refine nf (t:=17) rfl (λhc3=>?_) (λhc3=>?_)
 ·replace hc3:=ya hc3;refine B 32 ?_;exact zak
 replace hc3:=ya hc3;refine B 2 ?_;refine call call19 rfl rfl rfl (λW hS=>n9g p.right hf.right N p.ra p.rc W (aco hN (hS.links _ A1).size) (hp.right.up (abo _) (hS.same A1 hN zN zH))) ?_;refine B 3 ?_;refine nf (t:=23) rfl (λhc4=>?_) (λhc4=>?_)
 ·replace hc4:=ya hc4;refine B 26 ?_;exact zak
 replace hc4:=ya hc4;refine B 5 ?_;refine nf (t:=28) rfl (λhc5=>?_) (λhc5=>?_)
 ·replace hc5:=ya hc5;refine B 21 ?_;exact zak
 replace hc5:=ya hc5;refine B 7 ?_;refine nf (t:=35) rfl (λhc6=>?_) (λhc6=>?_)
 ·replace hc6:=ya hc6;refine B 14 ?_;exact zak
 replace hc6:=ya hc6;refine B 6 ?_;refine zCD ?_ ?_
 ·intro hc7;refine B 7 ?_;exact zak
 intro hc7;refine B 4 ?_;refine CJ.less (E':=[(0,_),(1,_),(2,_),(3,_),(4,_),(5,_),(6,_),(7,_),(8,_),(9,_),(10,_),(11,_),(12,_),(13,_),(14,_),(15,_),(16,_),(17,_),(18,_),(19,_),(20,_),(21,_),(22,_),(23,_),(24,_),(25,_),(26,_),(27,_),(28,_),(29,_),(30,_),(31,_),(32,_),(33,_),(34,_),(35,_),(36,_),(37,_),(38,_),(39,_)]) zR ?_;refine nJ 6 [4,5] [([],some _),([0],some (.slice p.la p.left.length p.lc)),([],some _),([2],some (.slice p.ra p.right.length p.rc)),([3],none),([4],none)] (λcv L' H'=>match cv with| []=>L'=[w1,w]/\H'=[]| [v1]=>∃(b44:Nat) (w44:World),v1= .map (some b44)/\L'=[w44,w1,w]/\H'=[]/\w44.heap[b44]? =some (mpO (.agg #[]) (setK p.right))| [v1,v2]=>∃(b44:Nat) (w44:World),v1= .map (some b44)/\v2= .func (.func 22) #[.map (some b44)] #[]/\L'=[w44,w1,w]/\H'=[]/\w44.heap[b44]? =some (mpO (.agg #[]) (setK p.right))|_=>False) zM ⟨rfl,rfl⟩ zM zM zM zM zM zM (pc (by exact λcv L' H' hd hP=>X.val rfl rfl (fld_r underlying34 rfl sizeOf32 rfl) R2) (pc zcA (pc (by exact λcv L' H' hd hP=>X.val rfl rfl (fld_r underlying34 rfl sizeOf32 rfl) R2) (pc zcA (pk (pk (pn))))))) ?_ ?_
 ·refine sc rfl rfl rfl ?_ ?_
  ·intro cv L' H' hl hP F Q' hk;obtain rfl:=aap hl;obtain⟨rfl,rfl⟩:=hP;refine nq (α:=Nat) (v:=λb:Nat=>.map (some b)) (Φ:=λ(W:World) (b:Nat) (v1:World)=>W.heap.size<=b/\v1.heap[b]? =some (mpO (.agg #[]) (setK p.right))) call21 rfl rfl rfl (λW hS=>nkb p.right hf.right N p.ra p.rc W (aco hN (hS.links _ A1).size) (hp.right.up (abo _) (hS.same A1 hN zN True.intro))) ?_;rintro W44 b44 w44 hS44 hB44 ⟨h1,h2⟩;exact OJ.done (hk _ _ _ ⟨b44,w44,rfl,rfl,rfl,h2⟩)
  refine sc rfl rfl rfl ?_ ?_
  ·intro cv L' H' hl hP F Q' hk;obtain⟨v1,rfl⟩:=len1 hl;obtain⟨b44,w44,rfl,rfl,rfl,hb44⟩:=hP;refine z7f ?_;exact OJ.done (hk _ _ _ ⟨b44,w44,rfl,rfl,rfl,rfl,hb44⟩)
  exact sn
 intro cv L' H' hl hP;obtain⟨v1,v2,rfl⟩:=len2 hl;obtain⟨b44,w44,rfl,rfl,rfl,rfl,hb44⟩:=hP;refine call call20 rfl rfl rfl (λW hS=>by have:=nHh p.left hf.left N p.la p.lc W (aco hN (hS.links _ A2).size) (hp.left.up (abo _) (hS.same A2 hN zN zH)) b44 (setK p.right) (hS.old A0 hb44 zO trivial);rw[any_set]at this;exact this) (v:=.bool (p.left.any λx=>decide (x∈p.right))) ?_;refine B 2 ?_;refine zCD ?_ ?_
 ·intro hc8;refine B 7 ?_;refine retV results7 rfl A2 ?_;exact z3h
 intro hc8;refine B 8 ?_;refine retV results7 rfl A2 ?_;exact z3h
def fewB (p:Po):Bool:=decide (p.left.length<=10)&&decide (p.right.length<=10)
theorem nzm(h:fewB p=true):PoFew p:=by
 simp only[fewB,awo,decide_eq_true_eq]at h;exact⟨by omega,by omega⟩
theorem n8j(p:Po)(w:World):Calls prog 5 #[.agg (poC p)] w (Ret w (.bool (fewB p))):=by
 refine enter (vs:=[_]) func5 rfl ntmps5 rfl ?_;refine B 3 ?_;intro b1 w1 hb1 ha1 ho1 hm1 hz1;replace ha1:=yb ha1;replace ho1:=yc ho1;refine B 10 ?_;refine nf (t:=7) rfl (λhc1=>?_) (λhc1=>?_)
 ·exact zAj
 exact zAj
theorem nPl(hZ:FxOk Z)(x:It)(hx:ItGood x)(hbl:x.body.length<=1000000)(N:Nat)(w:World)(hN:N<=w.heap.size)(hby:ByAt N w x.ba x.body)(hg:Glb w)(hgp:GlbP w)(hv:itB x=true):Calls prog 9 #[.agg (itA x)] w (Ret w (.agg (dg (itID Z x)))):=by
 have hg4:=hg.lt;have hff:=nBe (itV x) (Fv.flat (itF x)) hx.fine (apo rfl);have hid:itID Z x=Z.tg (⟨#[105,116,101,109]⟩:ByteArray) (V.list (itV x)).enc:=by unfold itID;rw[hv];rfl
 rw[hid];obtain⟨df,hdf⟩:∃df,Z.tg (⟨#[105,116,101,109]⟩:ByteArray) (V.list (itV x)).enc=df:=⟨_,rfl⟩;rw[hdf];refine enter (vs:=[_]) func9 rfl ntmps9 rfl ?_;refine B 3 ?_;intro b1 w1 hb1 ha1 ho1 hm1 hz1;replace ha1:=yb ha1;replace ho1:=yc ho1;refine z8e ?_;intro b2 ha2 ho2;replace ha2:=yb ha2;replace ho2:=yc ho2;refine B 4 ?_;refine zeh ?_;refine nEg (ys:=(V.list (itV x)).enc) call25 rfl rfl rfl (λW hS=>ntn x hx hbl N W (aco hN (hS.links w A1).size) (hby.up (abo _) (hS.same A1 hN zN zH)) (hg.old hS A1 zN zH) (hgp.old hg hS A1 zN zH) hv) ?_;intro b7 c7 s7 ha7 ho7 hx7 hr7;replace ha7:=yb ha7;replace ho7:=yd ho7;refine B 10 ?_;refine call call26 rfl rfl rfl (λW hS=>by rw[<-hdf];exact nZi hZ (⟨#[105,116,101,109]⟩:ByteArray) zI (V.list (itV x)).enc zG b7 0 c7 hr7.le W (SegU.row (hS.own _ A0)) (hg.old hS A1 zN zH)) (v:=.agg (dg df)) ?_;refine stWw (i:=1) rfl sizeOf43 rfl rfl rfl rfl rfl rfl ?_;refine B 3 ?_;refine retO (.inl rfl) results9 (RS.wA (i:=1) rfl isAgg43 sizeOf43 rfl (apo rfl) (RS.n)) A1 zL ?_;rfl
theorem nXl(hZ:FxOk Z)(x:It)(hx:ItGood x)(hbl:x.body.length<=1000000)(N:Nat)(w:World)(hN:N<=w.heap.size)(hby:ByAt N w x.ba x.body)(hg:Glb w)(hgp:GlbP w)(hv:itB x=false):Calls prog 9 #[.agg (itA x)] w (Ret w (.agg (dg (itID Z x)))):=by
 have hg4:=hg.lt;have hff:=nBe (itV x) (Fv.flat (itF x)) hx.fine (apo rfl);have hid:itID Z x=Z.tg (⟨#[105,116,101,109]⟩:ByteArray) []:=by unfold itID;rw[hv];rfl
 rw[hid];obtain⟨df,hdf⟩:∃df,Z.tg (⟨#[105,116,101,109]⟩:ByteArray) []=df:=⟨_,rfl⟩;rw[hdf];refine enter (vs:=[_]) func9 rfl ntmps9 rfl ?_;refine B 3 ?_;intro b1 w1 hb1 ha1 ho1 hm1 hz1;replace ha1:=yb ha1;replace ho1:=yc ho1;refine z8e ?_;intro b2 ha2 ho2;replace ha2:=yb ha2;replace ho2:=yc ho2;refine B 4 ?_;refine zeh ?_;refine call call25 rfl rfl rfl (λW hS=>nEn x hx hbl N W (aco hN (hS.links w A1).size) (hby.up (abo _) (hS.same A1 hN zN zH)) (hg.old hS A1 zN zH) (hgp.old hg hS A1 zN zH) hv) ?_;refine B 10 ?_;refine call call26 rfl rfl rfl (λW hS=>by rw[<-hdf];exact taggedN hZ (⟨#[105,116,101,109]⟩:ByteArray) zI W (hg.old hS A1 zN zH)) (v:=.agg (dg df)) ?_;refine zHe ?_;refine B 3 ?_;refine retO (.inl rfl) results9 (RS.wA (i:=0) rfl isAgg43 sizeOf43 rfl (apo rfl) (RS.n)) A1 zL ?_;rfl
theorem nuf(hZ:FxOk Z)(x:It)(hx:ItGood x)(hbl:x.body.length<=1000000)(N:Nat)(w:World)(hN:N<=w.heap.size)(hby:ByAt N w x.ba x.body)(hg:Glb w)(hgp:GlbP w):Calls prog 9 #[.agg (itA x)] w (Ret w (.agg (dg (itID Z x)))):=by
 cases hv:itB x with
 |true=>exact nPl hZ x hx hbl N w hN hby hg hgp hv
 |false=>exact nXl hZ x hx hbl N w hN hby hg hgp hv
theorem nxn(fa:Option Addr)(fl fc:Nat)(la:Option Addr)(ll lc:Nat)(ia:Option Addr)(its:List It)(ic:Nat)(rx:Rx)(p:Po)(w:World):Calls prog 29 #[.agg (rcA fa fl fc la ll lc ia its.length ic rx),.agg (poC p)] w (RetX w (λq:Nat×Nat=>.func (.func 60) #[] #[ptr q.1 0,ptr q.2 0]) (λq w1=>w.heap.size<=q.1/\w.heap.size<=q.2/\w1.heap[q.1]? =some (.cells (rcA fa fl fc la ll lc ia its.length ic rx) 31 (0,0))/\w1.heap[q.2]? =some (.cells (poC p) 34 (0,0)))):=by
 refine enter (vs:=[_,_]) func29 rfl ntmps29 rfl ?_;refine B 3 ?_;intro b2 w2 hb2 ha2 ho2 hm2 hz2;replace ha2:=yb ha2;replace ho2:=yc ho2;refine B 1 ?_;intro b3 w3 hb3 ha3 ho3 hm3 hz3;replace ha3:=yb ha3;replace ho3:=yc ho3;refine B 10 ?_;refine nE (b2,b3) results29 rfl A2 rfl ?_;exact zPj
def itmL (its:List It) (pf:Int):List It:=its.filter λx=>decide (x.folder=pf)
theorem nqk{x:It}(hx:its[j]? =some x)(h:x.folder=pf):itmL (its.take (j+1)) pf=itmL (its.take j) pf++[x]:=by unfold itmL;rw[np hx,List.filter_append];simp[h]
theorem itmL_no{x:It}(hx:its[j]? =some x)(h:¬x.folder=pf):itmL (its.take (j+1)) pf=itmL (its.take j) pf:=by unfold itmL;rw[np hx,List.filter_append];simp[h]
theorem itmL_pfx(its:List It)(pf:Int)(j:Nat):itmL (its.take j) pf <+:itmL its pf:=by
 refine⟨itmL (its.drop j) pf,?_⟩;unfold itmL;rw[<-List.filter_append,acp]
def ofRO (N b1 b2:Nat):Foot:=λk=>k<N\/k=b1\/k=b2
theorem of_iter(fa:Option Addr)(fl fc:Nat)(la:Option Addr)(ll lc:Nat)(ia:Option Addr)(its:List It)(hil:its.length<=1000000)(ic:Nat)(rx:Rx)(p:Po)(b1 b2 N:Nat)(W:World)(hN:N<=W.heap.size)(hsl:SlAt itA 74 N W ia its)(hb1:W.heap[b1]? =some (.cells (rcA fa fl fc la ll lc ia its.length ic rx) 31 (0,0)))(hb2:W.heap[b2]? =some (.cells (poC p) 34 (0,0))):n7b prog 60 [ptr b1 0,ptr b2 0] (λx:It=>[.agg (itA x)]) (Pfx (itmL its p.fo)) (Is (itmL its p.fo)) (λ_=>False) (ofRO N b1 b2) W:=by
 intro l M I X0 hM hI hX hy h0;have hm1:¬(it2 hM (λ_=>False) (hI [] _)).X b1:=by rintro(h|h);(exact(hM _ h).2.2 (.inr (.inl rfl)));(exact h.elim)
 have hm2:¬(it2 hM (λ_=>False) (hI [] _)).X b2:=by rintro(h|h);(exact(hM _ h).2.2 (.inr (.inr rfl)));(exact h.elim)
 have hl1:=(ago.1 hb1).1;have hl2:=(ago.1 hb2).1;refine nT (it2 hM (λ_=>False) (hI [] _)) [] (vs:=[_,_,_]) func60 rfl ntmps60 rfl (nMd hM (hI [] _) h0 zS (by simp[Dist]) zS) ?_;refine B 9 ?_;refine CJ.loop (α:=Nat×Foot) (λq=>[(0,yv l),(1,ptr b1 0),(2,ptr b2 0),(7,.slice ia its.length ic),(8,.int .i64 (its.length:Int)),(9,.int .i64 (q.1:Int))]) (λq=>[]) (λq=>[W]) (λq=>it2 hM q.2 (hI (itmL (its.take q.1) p.fo) q.2)) (λq=>q.1<=its.length/\∀k,q.2 k->W.heap.size<=k) (λq=>its.length-q.1) (0,λ_=>False) ⟨a3o _,λ_ h=>h.elim⟩ zR rfl rfl zS ?_;rintro⟨j,V⟩ ⟨hj,hV⟩;dsimp only at hj hV ⊢;clear hm1 hm2;have hm1:¬(it2 hM V (hI (itmL (its.take j) p.fo) V)).X b1:=by rintro(h|h);(exact(hM _ h).2.2 (.inr (.inl rfl)));(have:=hV _ h;omega)
 have hm2:¬(it2 hM V (hI (itmL (its.take j) p.fo) V)).X b2:=by rintro(h|h);(exact(hM _ h).2.2 (.inr (.inr rfl)));(have:=hV _ h;omega)
 refine B 6 ?_;refine zCD ?_ ?_
 ·intro hc1;refine B 5 ?_;obtain⟨bl,ol,csl,tl,frl,rfl,hbl,hcsl,hell⟩:=hsl.get zG;obtain⟨x,hx⟩:=nj its j zG;refine B 2 ?_;refine rv rfl rfl rfl (RV.re (v':=.agg (itA x)) (ldRA_r isAgg56 sizeOf56 rfl A0 hcsl (λh=>by rcases h with h|h;(exact(hM _ h).2.2 (.inl hbl));(have:=hV _ h;omega)) trivial (nk hell hx rfl)) (congrArg Value.agg (nl hell hx rfl))) ?_;refine allW zeroValue56 rfl rfl ?_;intro b5 ha5 ho5;replace ha5:=yb ha5;replace ho5:=yc ho5;refine z9g ?_;refine B 3 ?_;by_cases hfq:x.folder=p.fo
  ·refine zMh ?_;refine rv rfl rfl rfl (RV.re (v':=.bool true) (eqlI_r rfl rfl) (congrArg Value.bool (decide_eq_true hfq))) ?_;refine B 2 ?_;refine rv rfl rfl rfl (RV.re (v':=.agg (itA x)) (ldWAw_r (i:=0) rfl isAgg56 sizeOf56 rfl rfl) (rfl)) ?_;refine yldT (λ_=>False) id T_id (V:=V) (λV=>hI (itmL (its.take j) p.fo++[x]) V) hX hV rfl rfl rfl rfl (λW1 hw1 hI1=>hy (itmL (its.take j) p.fo) x V W1 (by rw[<-nqk hx hfq];exact itmL_pfx its p.fo (j+1)) hw1 hI1) ?_ ?_
   ·intro V2 hV2 hV3;have hV2W:∀k,V2 k->W.heap.size<=k:=λk hk=>by rcases hV3 W A0 k hk with h|h;(exact hV k h);exact h
    refine B 12 ?_;refine zWd ?_;refine PJ.again (j+1,V2) ⟨by dsimp only;omega,hV2W⟩ z2 zR rfl (by rw[nqk hx hfq];rfl) zS
   intro V2 hV2 hV3;have hV2W:∀k,V2 k->W.heap.size<=k:=λk hk=>by rcases hV3 W A0 k hk with h|h;(exact hV k h);exact h
   refine B 10 ?_;exact n2b (.inl rfl) results60 A0 hV2W (by intro k hk hx;simp at hx;omega) (λA hA=>.inr hA)
  refine zMh ?_;refine rv rfl rfl rfl (RV.re (v':=.bool false) (eqlI_r rfl rfl) (congrArg Value.bool (decide_eq_false hfq))) ?_;refine B 16 ?_;refine zWd ?_;refine PJ.again (j+1,V) ⟨by dsimp only;omega,hV⟩ z2 zR rfl (by rw[itmL_no hx hfq]) zS
 intro hc1;refine B 4 ?_;exact n2b (.inr rfl) results60 A0 hV zPc (λA hA=>.inl ⟨itmL (its.take j) p.fo,by rw[afp zG],hA⟩)
def AgAt (Z:Fx) (cs:List Cm) (fos:List Fo) (pf:Int) (K:Nat) (w1:World):Option ((Nat×Mq)×List Gv)->Prop
 |none=>fos.find? (λf:Fo=>decide (f.id=pf))=none
 |some p=>(∃fo,fos.find? (λf:Fo=>decide (f.id=pf))=some fo/\ChX Z cs fo (p.2.map λx:Gv=>x.g))/\K<=p.1.1/\p.1.2.Ok (agM p.2)/\w1.heap[p.1.1]? =some (p.1.2.obj dkv ei (agM p.2))
theorem nzd(hZ:FxOk Z)(cs:List Cm)(hcs:cs.length<=1000)(hcg:∀c∈cs,CmGood c)(N:Nat)(la:Option Addr)(lc:Nat)(w:World)(hN:N<=w.heap.size)(hsl:SlAt cmA 73 N w la cs)(hC:∀c∈cs,CmAt N w c)(fa:Option Addr)(fos:List Fo)(fc:Nat)(hfl:fos.length<=9223372036854775807)(hfs:SlAt foA 33 N w fa fos)(ia:Option Addr)(il ic:Nat)(rx:Rx)(pf:Int)(hg:Glb w):Calls prog 28 #[.agg (rcA fa fos.length fc la cs.length lc ia il ic rx),.int .i64 pf] w (RetX w (λq:Option ((Nat×Mq)×List Gv)=>.map (q.map λp=>p.1.1)) (λq w1=>AgAt Z cs fos pf w.heap.size w1 q)):=by
 cases h:fos.findIdx? (λf:Fo=>decide (f.id=pf))with
 |none=>
  have h1:=akp.1 h;refine(ages_no hZ cs hcs hcg N la lc w hN hsl hC fa fos fc hfl hfs ia il ic rx pf hg (List.any_eq_false.2 λx hx=>by simpa using h1 x hx)).mono ?_;rintro e w1 ⟨rfl,hB⟩;exact⟨none,rfl,hB,List.find?_eq_none.2 λx hx=>by simpa using h1 x hx⟩
 |some j=>
  obtain⟨h1,h2,h3⟩:=ajp.1 h;have hx:fos[j]? =some fos[j]:=aNo h1;have hn:NoTo (λf:Fo=>decide (f.id=pf)) fos j:=λi y hi hy=>by
   obtain⟨h4,h5⟩:=ako.1 hy;have h6:=h3 i hi;rw[h5]at h6;exact Bool.eq_false_iff.2 h6
  refine(ages_yes hZ cs hcs hcg N la lc w hN hsl hC fa fos fc hfl hfs ia il ic rx pf hg j fos[j] hx zGc hn).mono ?_;rintro e w1 ⟨⟨⟨⟨b,m⟩,f0⟩,gs⟩,rfl,hB,g1,g2,g3,g4⟩;exact⟨some ((b,m),gs),rfl,hB,⟨fos[j],nYe hn hx h2,g1⟩,g2,g3,g4⟩
def ageF (q:Option ((Nat×Mq)×List Gv)) (k:Dk):Option Int:=q.bind λp=>gget (agM p.2) k
noncomputable def rtB (Z:Fx) (del:List Dk) (p:Po) (q:Option ((Nat×Mq)×List Gv)) (x:It):Bool:=match ageF q (dk x.commit)with|none=>true|some a=>if dk (itID Z x)∈del then decide (p.least<=a)else decide (a<=p.most)
noncomputable def rtI (Z:Fx) (del:List Dk) (p:Po) (q:Option ((Nat×Mq)×List Gv)) (its:List It):Int:=if(itmL its p.fo).all (rtB Z del p q)=true then 0 else 460
theorem rt_none{x:It}(h:ageF q (dk x.commit)=none):rtB Z del p q x=true:=by unfold rtB;rw[h]
theorem nvd{x:It}{a:Int}(h:ageF q (dk x.commit)=some a):rtB Z del p q x=if dk (itID Z x)∈del then decide (p.least<=a)else decide (a<=p.most):=by unfold rtB;rw[h]
def AgS (Z:Fx) (cs:List Cm) (fos:List Fo) (pf:Int):Option ((Nat×Mq)×List Gv)->Prop
 |none=>fos.find? (λf:Fo=>decide (f.id=pf))=none
 |some p=>∃fo,fos.find? (λf:Fo=>decide (f.id=pf))=some fo/\ChX Z cs fo (p.2.map λx:Gv=>x.g)
theorem AgAt.s{cs:List Cm}{K:Nat}(h:AgAt Z cs fos pf K w1 q):AgS Z cs fos pf q:=by
 cases q with
 |none=>exact h
 |some z=>exact h.1
theorem AgAt.lt{cs:List Cm}{K:Nat}(h:AgAt Z cs fos pf K w1 q):∀z,q=some z->K<=z.1.1/\z.1.1<w1.heap.size:=by
 rintro z rfl;exact⟨h.2.1,(ago.1 h.2.2.2).1⟩
theorem ag_look{cs:List Cm}{K:Nat}{y:Operand}(hP:C.P=prog)(h:AgAt Z cs fos pf K w1 q)(hw:w1∈L)(hG:∀z,q=some z->¬G.X z.1.1)(hO:∀z,q=some z->Off H z.1.1)(hx:Px.ev E x=some (.map (q.map λp=>p.1.1)))(hy:Px.ev E y=some (.agg (dg f))):RV C G L H E (.lookup 111 x y true) (.tuple #[.int .i64 ((ageF q (dk f)).getD 0),.bool (ageF q (dk f)).isSome]):=by
 have hU:C.P.underlying 111=some (.map 43 3):=by rw[hP];exact underlying111
 have hK:KeyF C.P 43 dkv:=by rw[hP];exact keyD
 have hz:nvb C.P 3 (.int .i64 0):=by rw[hP];exact zeroValue3
 cases q with
 |none=>exact glookN_r (ek:=dkv) (k:=dk f) hU hK hz hx hy
 |some z=>
  have h1:=gget2_r (C:=C) (G:=G) (L:=L) (H:=H) (ev:=ei) (m:=z.1.2) (kv:=agM z.2) (k:=dk f) hU hK hz h.2.2.1 (Lies.old hw h.2.2.2 (hG z rfl) (hO z rfl)) hx hy;have e:((gget (agM z.2) (dk f)).map ei).getD (.int .i64 0)= .int .i64 ((ageF (some z) (dk f)).getD 0):=by
   show _=Value.int .i64 ((gget (agM z.2) (dk f)).getD 0);cases gget (agM z.2) (dk f)<;>rfl
  rw[e]at h1;exact h1
theorem ret1cM{fn:Func}{Dk t4 T4 b4 ct4:Nat}{cs4:Array Value}{fr4:Nat×Nat}{v4:Value}(he:e= .ret\/e= .normal)(hr:fn.results=#[.cell t4 T4])(hA4:AggF C.P T4 false)(hx4:look E t4=some (ptr b4 0))(hm:(Dk,.deferred (some []))∈H)(hb4:(b4,.cells cs4 ct4 fr4)∈H)(n4:b4≠Dk)(hv4:cs4[0]? =some v4)(h:∀W H',St G L H' W->H'.map (·.1)=H.map (·.1)->R (.returned v4) W):PJ C (bodyPostM (FW none) 0 C.P fn R) e E [coll Dk] G L H:=
 retM he hm λa W H' hF hS hst hmap=>by
  obtain⟨i,hi⟩:=aoo.1 (hst _ hb4 n4);exact⟨_,(RS.w (C:=C) hi hA4 hx4 hv4 RS.n).res hr hF hS,h W H' hS hmap⟩
theorem AgAt.zero{cs:List Cm}{K:Nat}(h:AgAt Z cs fos pf K w1 q):AgAt Z cs fos pf 0 w1 q:=by
 cases q with
 |none=>exact h
 |some z=>exact⟨h.1,a3o _,h.2.2⟩
theorem CJ.st2{c:Code}{Q:Post}(h:∀W,St G L H W->CJ C c Q E D G L H):CJ C c Q E D G L H:=λa W hN hD hF hS=>h W hS a W hN hD hF hS
theorem rtI_yes(h:∀x∈itmL its p.fo,rtB Z del p q x=true):(0:Int)=rtI Z del p q its:=by unfold rtI;rw[if_pos (aPo.2 h)]
theorem rtI_no{x:It}(hx:x∈itmL its p.fo)(h:rtB Z del p q x=false):(460:Int)=rtI Z del p q its:=by unfold rtI;rw[if_neg (λh2=>by have:=aPo.1 h2 x hx;rw[h]at this;cases this)]
theorem nzn(hZ:FxOk Z)(cs:List Cm)(hcs:cs.length<=1000)(hcg:∀c∈cs,CmGood c)(N:Nat)(la:Option Addr)(lc:Nat)(w:World)(hN:N<=w.heap.size)(hsl:SlAt cmA 73 N w la cs)(hC:∀c∈cs,CmAt N w c)(fa:Option Addr)(fos:List Fo)(fc:Nat)(hfl:fos.length<=9223372036854775807)(hfs:SlAt foA 33 N w fa fos)(ia:Option Addr)(its:List It)(ic:Nat)(hil:its.length<=1000000)(hits:SlAt itA 74 N w ia its)(hig:∀x∈its,ItGood x/\x.body.length<=1000000/\ByAt N w x.ba x.body)(rx:Rx)(p:Po)(hf:PoFew p)(hp:PoAt N w p)(da:Option Addr)(del:List Dk)(dc:Nat)(hdl:del.length<=1000000)(hds:SlAt dkA 32 N w da del)(hg:Glb w)(hgp:GlbP w)(hck:chkI p=0):Calls prog 10 #[.agg (rcA fa fos.length fc la cs.length lc ia its.length ic rx),.agg (poC p),.slice da del.length dc] w (RetX w (λe:Int=>.int .i64 e) (λe _=>∃q,AgS Z cs fos p.fo q/\e=rtI Z del p q its)):=by
 have hg4:=hg.lt;refine n1b Gh.no [] (vs:=[_,_,_]) func10 rfl ntmps10 rfl (nmc w) ?_;refine B 3 ?_;intro b3 w3 hb3 ha3 ho3 hm3 hz3;replace ha3:=yb ha3;replace ho3:=yc ho3;refine B 1 ?_;intro b4 w4 hb4 ha4 ho4 hm4 hz4;replace ha4:=yb ha4;replace ho4:=yc ho4;refine allW zeroValue39 rfl rfl ?_;intro b6 ha6 ho6;replace ha6:=yb ha6;replace ho6:=yc ho6;refine B 5 ?_;refine zQf ?_;refine call call7 rfl rfl rfl (λW hS=>by rw[<-hck];exact nyb p hf N W (aco hN (hS.links w A2).size) (hp.up (abo _) (hS.same A2 hN zN zU))) (v:=.int .i64 0) ?_;refine zxh ?_;refine B 6 ?_;refine zRg ?_;refine nRg 8 [1,5,6,7] [([],some (.slice da del.length dc)),([0],none),([],some (.agg (rcA fa fos.length fc la cs.length lc ia its.length ic rx))),([],some _),([3],some (.int .i64 p.fo)),([2,4],none),([],none),([],none)] [[],[0],[],[]] (λcv L' H'=>match cv with| [none,none,none,none]=>L'=[w4,w3,w]/\H'=[(b6,.cells #[.int .i64 0] 39 (0,0))]| [none,none,none,some v7]=>∃(b9:Nat),v7=ptr b9 0/\L'=[w4,w3,w]/\H'=[(b9,.cells #[.map none] 111 (0,0)),(b6,.cells #[.int .i64 0] 39 (0,0))]/\w4.heap.size<=b9| [none,none,some v6,none]=>∃(b8:Nat),v6=ptr b8 0/\L'=[w4,w3,w]/\H'=[(b8,.cells #[.map none] 109 (0,0)),(b6,.cells #[.int .i64 0] 39 (0,0))]/\w4.heap.size<=b8| [none,none,some v6,some v7]=>∃(b8:Nat) (b9:Nat),v6=ptr b8 0/\v7=ptr b9 0/\L'=[w4,w3,w]/\H'=[(b9,.cells #[.map none] 111 (0,0)),(b8,.cells #[.map none] 109 (0,0)),(b6,.cells #[.int .i64 0] 39 (0,0))]/\w4.heap.size<=b8/\w4.heap.size<=b9| [some v1,none,none,none]=>∃(b20:Nat) (m20:Mq) (w20:World),v1= .map (some b20)/\L'=[w20,w4,w3,w]/\H'=[(b6,.cells #[.int .i64 0] 39 (0,0))]/\m20.Ok (dset del)/\w20.heap[b20]? =some (m20.obj dkv uv (dset del))/\b20≠b6| [some v1,none,none,some v7]=>∃(b20:Nat) (m20:Mq) (w20:World) (b9:Nat),v1= .map (some b20)/\v7=ptr b9 0/\L'=[w20,w4,w3,w]/\H'=[(b9,.cells #[.map none] 111 (0,0)),(b6,.cells #[.int .i64 0] 39 (0,0))]/\m20.Ok (dset del)/\w20.heap[b20]? =some (m20.obj dkv uv (dset del))/\b20≠b6/\w4.heap.size<=b9/\b20≠b9| [some v1,none,some v6,none]=>∃(b20:Nat) (m20:Mq) (w20:World) (b8:Nat),v1= .map (some b20)/\v6=ptr b8 0/\L'=[w20,w4,w3,w]/\H'=[(b8,.cells #[.map none] 109 (0,0)),(b6,.cells #[.int .i64 0] 39 (0,0))]/\m20.Ok (dset del)/\w20.heap[b20]? =some (m20.obj dkv uv (dset del))/\b20≠b6/\w4.heap.size<=b8/\b20≠b8| [some v1,none,some v6,some v7]=>∃(b20:Nat) (m20:Mq) (w20:World) (b8:Nat) (b9:Nat),v1= .map (some b20)/\v6=ptr b8 0/\v7=ptr b9 0/\L'=[w20,w4,w3,w]/\H'=[(b9,.cells #[.map none] 111 (0,0)),(b8,.cells #[.map none] 109 (0,0)),(b6,.cells #[.int .i64 0] 39 (0,0))]/\m20.Ok (dset del)/\w20.heap[b20]? =some (m20.obj dkv uv (dset del))/\b20≠b6/\w4.heap.size<=b8/\w4.heap.size<=b9/\b20≠b8/\b20≠b9| [some v1,some v5,none,none]=>∃(b20:Nat) (m20:Mq) (w20:World) (q5:Option ((Nat×Mq)×List Gv)) (w24:World),v1= .map (some b20)/\v5= .map (q5.map λp:(Nat×Mq)×List Gv=>p.1.1)/\L'=[w24,w20,w4,w3,w]/\H'=[(b6,.cells #[.int .i64 0] 39 (0,0))]/\m20.Ok (dset del)/\w20.heap[b20]? =some (m20.obj dkv uv (dset del))/\b20≠b6/\AgAt Z cs fos p.fo 0 w24 q5/\(∀z,q5=some z->z.1.1≠b6)| [some v1,some v5,none,some v7]=>∃(b20:Nat) (m20:Mq) (w20:World) (q5:Option ((Nat×Mq)×List Gv)) (w24:World) (b9:Nat),v1= .map (some b20)/\v5= .map (q5.map λp:(Nat×Mq)×List Gv=>p.1.1)/\v7=ptr b9 0/\L'=[w24,w20,w4,w3,w]/\H'=[(b9,.cells #[.map none] 111 (0,0)),(b6,.cells #[.int .i64 0] 39 (0,0))]/\m20.Ok (dset del)/\w20.heap[b20]? =some (m20.obj dkv uv (dset del))/\b20≠b6/\AgAt Z cs fos p.fo 0 w24 q5/\(∀z,q5=some z->z.1.1≠b6)/\w4.heap.size<=b9/\b20≠b9/\(∀z,q5=some z->z.1.1≠b9)| [some v1,some v5,some v6,none]=>∃(b20:Nat) (m20:Mq) (w20:World) (q5:Option ((Nat×Mq)×List Gv)) (w24:World) (b8:Nat),v1= .map (some b20)/\v5= .map (q5.map λp:(Nat×Mq)×List Gv=>p.1.1)/\v6=ptr b8 0/\L'=[w24,w20,w4,w3,w]/\H'=[(b8,.cells #[.map none] 109 (0,0)),(b6,.cells #[.int .i64 0] 39 (0,0))]/\m20.Ok (dset del)/\w20.heap[b20]? =some (m20.obj dkv uv (dset del))/\b20≠b6/\AgAt Z cs fos p.fo 0 w24 q5/\(∀z,q5=some z->z.1.1≠b6)/\w4.heap.size<=b8/\b20≠b8/\(∀z,q5=some z->z.1.1≠b8)| [some v1,some v5,some v6,some v7]=>∃(b20:Nat) (m20:Mq) (w20:World) (q5:Option ((Nat×Mq)×List Gv)) (w24:World) (b8:Nat) (b9:Nat),v1= .map (some b20)/\v5= .map (q5.map λp:(Nat×Mq)×List Gv=>p.1.1)/\v6=ptr b8 0/\v7=ptr b9 0/\L'=[w24,w20,w4,w3,w]/\H'=[(b9,.cells #[.map none] 111 (0,0)),(b8,.cells #[.map none] 109 (0,0)),(b6,.cells #[.int .i64 0] 39 (0,0))]/\m20.Ok (dset del)/\w20.heap[b20]? =some (m20.obj dkv uv (dset del))/\b20≠b6/\AgAt Z cs fos p.fo 0 w24 q5/\(∀z,q5=some z->z.1.1≠b6)/\w4.heap.size<=b8/\w4.heap.size<=b9/\b20≠b8/\b20≠b9/\(∀z,q5=some z->z.1.1≠b8)/\(∀z,q5=some z->z.1.1≠b9)|_=>False) zM ⟨rfl,rfl⟩ zM zM zM zM zM zM rfl (qc z0b (qk (qc zcB (qc (by exact λcv L' H' _ _ hP=>X.val rfl rfl (fld_r underlying34 rfl sizeOf3 rfl) R2) (qc zcB (qk (qk (qk (qn))))))))) ?_ ?_
 ·refine nc rfl rfl rfl rfl ?_ ?_
  ·intro cv L' H' hl hr hP F Q' hk;obtain⟨x1,x5,x6,x7,rfl⟩:=len4 hl;rcases x1 with _|v1<;>rcases x5 with _|v5<;>rcases x6 with _|v6<;>rcases x7 with _|v7<;>try exact False.elim hP
   ·obtain⟨rfl,rfl⟩:=hP;refine zbe ?_;rintro W20 b20 w20 hS20 hB20 ⟨hge20,m20,hm20,hs20⟩;have l6:=hS20.lt (b6,_) A0;try dsimp only at l6
    have n20:b20≠b6:=by omega
    exact OJ.done (hk _ _ _ ⟨b20,m20,w20,rfl,rfl,rfl,hm20,hs20,n20⟩)
   ·obtain⟨b9,rfl,rfl,rfl,ha9⟩:=hP;refine zbe ?_;rintro W20 b20 w20 hS20 hB20 ⟨hge20,m20,hm20,hs20⟩;have l6:=hS20.lt (b6,_) A1;try dsimp only at l6
    have n20:b20≠b6:=by omega
    have l9:=hS20.lt (b9,_) A0;try dsimp only at l9
    have n207:b20≠b9:=by omega
    exact OJ.done (hk _ _ _ ⟨b20,m20,w20,b9,rfl,rfl,rfl,rfl,hm20,hs20,n20,ha9,n207⟩)
   ·obtain⟨b8,rfl,rfl,rfl,ha8⟩:=hP;refine zbe ?_;rintro W20 b20 w20 hS20 hB20 ⟨hge20,m20,hm20,hs20⟩;have l6:=hS20.lt (b6,_) A1;try dsimp only at l6
    have n20:b20≠b6:=by omega
    have l8:=hS20.lt (b8,_) A0;try dsimp only at l8
    have n206:b20≠b8:=by omega
    exact OJ.done (hk _ _ _ ⟨b20,m20,w20,b8,rfl,rfl,rfl,rfl,hm20,hs20,n20,ha8,n206⟩)
   ·obtain⟨b8,b9,rfl,rfl,rfl,rfl,ha8,ha9⟩:=hP;refine zbe ?_;rintro W20 b20 w20 hS20 hB20 ⟨hge20,m20,hm20,hs20⟩;have l6:=hS20.lt (b6,_) A2;try dsimp only at l6
    have n20:b20≠b6:=by omega
    have l8:=hS20.lt (b8,_) A1;try dsimp only at l8
    have n206:b20≠b8:=by omega
    have l9:=hS20.lt (b9,_) A0;try dsimp only at l9
    have n207:b20≠b9:=by omega
    exact OJ.done (hk _ _ _ ⟨b20,m20,w20,b8,b9,rfl,rfl,rfl,rfl,rfl,hm20,hs20,n20,ha8,ha9,n206,n207⟩)
   ·exact z1h
   ·exact z1h
   ·exact z1h
   ·exact z1h
   ·exact z1h
   ·exact z1h
   ·exact z1h
   exact z1h
  refine nc rfl rfl rfl rfl ?_ ?_
  ·intro cv L' H' hl hr hP F Q' hk;obtain⟨x1,x5,x6,x7,rfl⟩:=len4 hl;rcases x1 with _|v1<;>rcases x5 with _|v5<;>rcases x6 with _|v6<;>rcases x7 with _|v7<;>try exact False.elim hP
   ·exact z1h
   ·exact z1h
   ·exact z1h
   ·exact z1h
   ·obtain⟨b20,m20,w20,rfl,rfl,rfl,hm20,hs20,n20⟩:=hP;refine z1d ?_;rintro W24 q5 w24 hS24 hB24 hag;have l6:=hS24.lt (b6,_) A0;try dsimp only at l6
    have na:(∀z,q5=some z->z.1.1≠b6):=λz hz=>by have:=(hag.lt z hz).1;omega
    exact OJ.done (hk _ _ _ ⟨b20,m20,w20,q5,w24,rfl,rfl,rfl,rfl,hm20,hs20,n20,hag.zero,na⟩)
   ·obtain⟨b20,m20,w20,b9,rfl,rfl,rfl,rfl,hm20,hs20,n20,ha9,n207⟩:=hP;refine z1d ?_;rintro W24 q5 w24 hS24 hB24 hag;have l6:=hS24.lt (b6,_) A1;try dsimp only at l6
    have na:(∀z,q5=some z->z.1.1≠b6):=λz hz=>by have:=(hag.lt z hz).1;omega
    have l9:=hS24.lt (b9,_) A0;try dsimp only at l9
    have na7:(∀z,q5=some z->z.1.1≠b9):=λz hz=>by have:=(hag.lt z hz).1;omega
    exact OJ.done (hk _ _ _ ⟨b20,m20,w20,q5,w24,b9,rfl,rfl,rfl,rfl,rfl,hm20,hs20,n20,hag.zero,na,ha9,n207,na7⟩)
   ·obtain⟨b20,m20,w20,b8,rfl,rfl,rfl,rfl,hm20,hs20,n20,ha8,n206⟩:=hP;refine z1d ?_;rintro W24 q5 w24 hS24 hB24 hag;have l6:=hS24.lt (b6,_) A1;try dsimp only at l6
    have na:(∀z,q5=some z->z.1.1≠b6):=λz hz=>by have:=(hag.lt z hz).1;omega
    have l8:=hS24.lt (b8,_) A0;try dsimp only at l8
    have na6:(∀z,q5=some z->z.1.1≠b8):=λz hz=>by have:=(hag.lt z hz).1;omega
    exact OJ.done (hk _ _ _ ⟨b20,m20,w20,q5,w24,b8,rfl,rfl,rfl,rfl,rfl,hm20,hs20,n20,hag.zero,na,ha8,n206,na6⟩)
   ·obtain⟨b20,m20,w20,b8,b9,rfl,rfl,rfl,rfl,rfl,hm20,hs20,n20,ha8,ha9,n206,n207⟩:=hP;refine z1d ?_;rintro W24 q5 w24 hS24 hB24 hag;have l6:=hS24.lt (b6,_) A2;try dsimp only at l6
    have na:(∀z,q5=some z->z.1.1≠b6):=λz hz=>by have:=(hag.lt z hz).1;omega
    have l8:=hS24.lt (b8,_) A1;try dsimp only at l8
    have na6:(∀z,q5=some z->z.1.1≠b8):=λz hz=>by have:=(hag.lt z hz).1;omega
    have l9:=hS24.lt (b9,_) A0;try dsimp only at l9
    have na7:(∀z,q5=some z->z.1.1≠b9):=λz hz=>by have:=(hag.lt z hz).1;omega
    exact OJ.done (hk _ _ _ ⟨b20,m20,w20,q5,w24,b8,b9,rfl,rfl,rfl,rfl,rfl,rfl,hm20,hs20,n20,hag.zero,na,ha8,ha9,n206,n207,na6,na7⟩)
   ·exact z1h
   ·exact z1h
   ·exact z1h
   exact z1h
  refine nc rfl rfl rfl rfl ?_ ?_
  ·intro cv L' H' hl hr hP F Q' hk;obtain⟨x1,x5,x6,x7,rfl⟩:=len4 hl;rcases x1 with _|v1<;>rcases x5 with _|v5<;>rcases x6 with _|v6<;>rcases x7 with _|v7<;>try exact False.elim hP
   ·obtain⟨rfl,rfl⟩:=hP;refine zrf ?_;intro b8 ha ho;exact OJ.done (hk _ _ _ ⟨b8,rfl,rfl,rfl,(ha.mem w4 zS)⟩)
   ·obtain⟨b9,rfl,rfl,rfl,ha9⟩:=hP;refine zrf ?_;intro b8 ha ho;refine zLg ?_;exact OJ.done (hk _ _ _ ⟨b8,b9,rfl,rfl,rfl,rfl,(ha.mem w4 zS),ha9⟩)
   ·exact z1h
   ·exact z1h
   ·obtain⟨b20,m20,w20,rfl,rfl,rfl,hm20,hs20,n20⟩:=hP;refine zrf ?_;intro b8 ha ho;have n206:b20≠b8:=by have h1:=ha.mem w20 zS;have h2:=(ago.1 hs20).1;omega
    exact OJ.done (hk _ _ _ ⟨b20,m20,w20,b8,rfl,rfl,rfl,rfl,hm20,hs20,n20,(ha.mem w4 zS),n206⟩)
   ·obtain⟨b20,m20,w20,b9,rfl,rfl,rfl,rfl,hm20,hs20,n20,ha9,n207⟩:=hP;refine zrf ?_;intro b8 ha ho;have n206:b20≠b8:=by have h1:=ha.mem w20 zS;have h2:=(ago.1 hs20).1;omega
    refine zLg ?_;exact OJ.done (hk _ _ _ ⟨b20,m20,w20,b8,b9,rfl,rfl,rfl,rfl,rfl,hm20,hs20,n20,(ha.mem w4 zS),ha9,n206,n207⟩)
   ·exact z1h
   ·exact z1h
   ·obtain⟨b20,m20,w20,q5,w24,rfl,rfl,rfl,rfl,hm20,hs20,n20,hag,na⟩:=hP;refine zrf ?_;intro b8 ha ho;have n206:b20≠b8:=by have h1:=ha.mem w20 zS;have h2:=(ago.1 hs20).1;omega
    have na6:(∀z,q5=some z->z.1.1≠b8):=λz hz=>by have h1:=ha.mem w24 zS;have h2:=(hag.lt z hz).2;omega
    exact OJ.done (hk _ _ _ ⟨b20,m20,w20,q5,w24,b8,rfl,rfl,rfl,rfl,rfl,hm20,hs20,n20,hag,na,(ha.mem w4 zS),n206,na6⟩)
   ·obtain⟨b20,m20,w20,q5,w24,b9,rfl,rfl,rfl,rfl,rfl,hm20,hs20,n20,hag,na,ha9,n207,na7⟩:=hP;refine zrf ?_;intro b8 ha ho;have n206:b20≠b8:=by have h1:=ha.mem w20 zS;have h2:=(ago.1 hs20).1;omega
    have na6:(∀z,q5=some z->z.1.1≠b8):=λz hz=>by have h1:=ha.mem w24 zS;have h2:=(hag.lt z hz).2;omega
    refine zLg ?_;exact OJ.done (hk _ _ _ ⟨b20,m20,w20,q5,w24,b8,b9,rfl,rfl,rfl,rfl,rfl,rfl,hm20,hs20,n20,hag,na,(ha.mem w4 zS),ha9,n206,n207,na6,na7⟩)
   ·exact z1h
   exact z1h
  refine nc rfl rfl rfl rfl ?_ ?_
  ·intro cv L' H' hl hr hP F Q' hk;obtain⟨x1,x5,x6,x7,rfl⟩:=len4 hl;rcases x1 with _|v1<;>rcases x5 with _|v5<;>rcases x6 with _|v6<;>rcases x7 with _|v7<;>try exact False.elim hP
   ·obtain⟨rfl,rfl⟩:=hP;refine zDf ?_;intro b9 ha ho;exact OJ.done (hk _ _ _ ⟨b9,rfl,rfl,rfl,(ha.mem w4 zS)⟩)
   ·exact z1h
   ·obtain⟨b8,rfl,rfl,rfl,ha8⟩:=hP;refine zDf ?_;intro b9 ha ho;exact OJ.done (hk _ _ _ ⟨b8,b9,rfl,rfl,rfl,rfl,ha8,(ha.mem w4 zS)⟩)
   ·exact z1h
   ·obtain⟨b20,m20,w20,rfl,rfl,rfl,hm20,hs20,n20⟩:=hP;refine zDf ?_;intro b9 ha ho;have n207:b20≠b9:=by have h1:=ha.mem w20 zS;have h2:=(ago.1 hs20).1;omega
    exact OJ.done (hk _ _ _ ⟨b20,m20,w20,b9,rfl,rfl,rfl,rfl,hm20,hs20,n20,(ha.mem w4 zS),n207⟩)
   ·exact z1h
   ·obtain⟨b20,m20,w20,b8,rfl,rfl,rfl,rfl,hm20,hs20,n20,ha8,n206⟩:=hP;refine zDf ?_;intro b9 ha ho;have n207:b20≠b9:=by have h1:=ha.mem w20 zS;have h2:=(ago.1 hs20).1;omega
    exact OJ.done (hk _ _ _ ⟨b20,m20,w20,b8,b9,rfl,rfl,rfl,rfl,rfl,hm20,hs20,n20,ha8,(ha.mem w4 zS),n206,n207⟩)
   ·exact z1h
   ·obtain⟨b20,m20,w20,q5,w24,rfl,rfl,rfl,rfl,hm20,hs20,n20,hag,na⟩:=hP;refine zDf ?_;intro b9 ha ho;have n207:b20≠b9:=by have h1:=ha.mem w20 zS;have h2:=(ago.1 hs20).1;omega
    have na7:(∀z,q5=some z->z.1.1≠b9):=λz hz=>by have h1:=ha.mem w24 zS;have h2:=(hag.lt z hz).2;omega
    exact OJ.done (hk _ _ _ ⟨b20,m20,w20,q5,w24,b9,rfl,rfl,rfl,rfl,rfl,hm20,hs20,n20,hag,na,(ha.mem w4 zS),n207,na7⟩)
   ·exact z1h
   ·obtain⟨b20,m20,w20,q5,w24,b8,rfl,rfl,rfl,rfl,rfl,hm20,hs20,n20,hag,na,ha8,n206,na6⟩:=hP;refine zDf ?_;intro b9 ha ho;have n207:b20≠b9:=by have h1:=ha.mem w20 zS;have h2:=(ago.1 hs20).1;omega
    have na7:(∀z,q5=some z->z.1.1≠b9):=λz hz=>by have h1:=ha.mem w24 zS;have h2:=(hag.lt z hz).2;omega
    exact OJ.done (hk _ _ _ ⟨b20,m20,w20,q5,w24,b8,b9,rfl,rfl,rfl,rfl,rfl,rfl,hm20,hs20,n20,hag,na,ha8,(ha.mem w4 zS),n206,n207,na6,na7⟩)
   exact z1h
  exact nn
 intro cv L' H' hl hr hP;obtain⟨x1,x5,x6,x7,rfl⟩:=len4 hl;rcases x1 with _|v1<;>rcases x5 with _|v5<;>rcases x6 with _|v6<;>rcases x7 with _|v7
 ·exact z1h
 ·exact z1h
 ·exact z1h
 ·exact z1h
 ·exact z1h
 ·exact z1h
 ·exact z1h
 ·exact z1h
 ·exact z1h
 ·exact z1h
 ·exact z1h
 ·exact z1h
 ·exact z1h
 ·exact z1h
 ·exact z1h
 obtain⟨b20,m20,w20,q5,w24,b8,b9,rfl,rfl,rfl,rfl,rfl,rfl,hm20,hs20,n20,hag,na,ha8,ha9,n206,n207,na6,na7⟩:=hP;refine zNg ?_;refine B 5 ?_;refine zsf ?_;refine nq (α:=Nat×Nat) (v:=λq:Nat×Nat=>.func (.func 60) #[] #[ptr q.1 0,ptr q.2 0]) (Φ:=λW q w1=>W.heap.size<=q.1/\W.heap.size<=q.2/\w1.heap[q.1]? =some (.cells (rcA fa fos.length fc la cs.length lc ia its.length ic rx) 31 (0,0))/\w1.heap[q.2]? =some (.cells (poC p) 34 (0,0))) call29 rfl rfl rfl (λW hS=>nxn fa fos.length fc la cs.length lc ia its ic rx p W) ?_;rintro Wn q wn hSn hBn ⟨hq1,hq2,hq3,hq4⟩;try dsimp only at hq1 hq2 hq3 hq4
 have hlq1:=(ago.1 hq3).1;have hlq2:=(ago.1 hq4).1;have hzn:=hBn.size;have hzn2:=(hSn.links w24 A0).size;have hzn0:=(hSn.links w20 A1).size;have l9:=hSn.lt (b9,_) A0;have l8:=hSn.lt (b8,_) A1;have l6:=hSn.lt (b6,_) A2;try dsimp only at l6 l8 l9
 refine B 3 ?_;refine CJ.reH (H':=[(b9,.cells #[.map (q5.map λp:(Nat×Mq)×List Gv=>p.1.1)] 111 (0,0)),(b8,.cells #[.map (some b20)] 109 (0,0)),(b6,.cells #[.int .i64 0] 39 (0,0))]) rfl ?_;refine CJ.range2 (f:=60) (cap:=[ptr q.1 0,ptr q.2 0]) (α:=It) (enc:=(λx:It=>[.agg (itA x)])) (Pre:=Pfx (itmL its p.fo)) (Fin:=Is (itmL its p.fo)) (RO:=ofRO N q.1 q.2) (MI:=λ_=>False) rfl call60 (λW' W2 hS hB=>by have l1:=(hS.links wn A0).size;have l2:=(hS.links w A5).size;have l3:=hB.size;exact of_iter fa fos.length fc la cs.length lc ia its hil ic rx p q.1 q.2 N W2 zG (hits.up (abo _) (λk hk=>(hB.block k zG).trans (hS.same A5 hN zN zU k hk))) zLd zKd) (λ_ _ _ hk=>hk.elim) (λW' hS k hk=>by have l1:=(hS.links wn A0).size;have l2:=(hS.links w A5).size;simp only[afo,a0o,aeo,aCo,or_false];rcases hk with hk|rfl|rfl<;>exact⟨by omega,by omega,λh=>h⟩) (λ_=>rfl) (λpre G' Hc=>G'=Gh.no/\(∀x∈pre,rtB Z del p q5 x=true)/\Hc=[(b9,.cells #[.map (q5.map λp:(Nat×Mq)×List Gv=>p.1.1)] 111 (0,0)),(b8,.cells #[.map (some b20)] 109 (0,0)),(b6,.cells #[.int .i64 0] 39 (0,0))]) (λc G' Hc=>c= .ret/\G'=Gh.no/\(∃x∈itmL its p.fo,rtB Z del p q5 x=false)/\Hc=[(b9,.cells #[.map (q5.map λp:(Nat×Mq)×List Gv=>p.1.1)] 111 (0,0)),(b8,.cells #[.map (some b20)] 109 (0,0)),(b6,.cells #[.int .i64 460] 39 (0,0))]) ⟨rfl,by simp,rfl⟩ zI ?_ ?_ ?_
 ·rintro pre x G' Hc l Dk rec W1 M V Wy hrs hrp hpre ⟨rfl,hall,rfl⟩ haD hlD hlW haW hlent hsY;simp only[Above]at haD haW;have hxm:=hpre.subset (azo.2 (.inr A0));have hxg:=hig x (aMo.1 hxm).1;have hl20:=(ago.1 hs20).1;have hX:∀k,k<w.heap.size->¬(Gh.no.ext λk=>M k\/V k).X k:=λk hk=>hlent.z (k:=k) zG zO zac zO;have hX20:¬(Gh.no.ext λk=>M k\/V k).X b20:=hlent.z (k:=b20) zG zO zac zO;have hXa:∀z,q5=some z->¬(Gh.no.ext λk=>M k\/V k).X z.1.1:=λz hz=>by have h1:=na z hz;have h2:=na6 z hz;have h3:=na7 z hz;have h4:=(hag.lt z hz).2;exact hlent.z (k:=z.1.1) zG zO zac zO
  have hm4:=hlent.z (k:=b4) zG zO zac zO;obtain⟨ao,hao⟩:∃ao,ageF q5 (dk x.commit)=ao:=⟨_,rfl⟩;refine B 1 ?_;refine allW zeroValue56 rfl rfl ?_;intro b10 ha10 ho10;replace ha10:=yb ha10;replace ho10:=yc ho10;refine z9g ?_;refine B 1 ?_;refine PJ.reH (H':=book ([(b10,.cells (itA x) 56 (0,0))]++[(b9,.cells #[.map (q5.map λp:(Nat×Mq)×List Gv=>p.1.1)] 111 (0,0)),(b8,.cells #[.map (some b20)] 109 (0,0)),(b6,.cells #[.int .i64 0] 39 (0,0))]) l rec (bxD Dk)) rfl ?_;refine n8b hrs ?_;refine B 3 ?_;refine rv rfl rfl rfl (RV.re (v':=.map (q5.map λp:(Nat×Mq)×List Gv=>p.1.1)) (ldW_r (i:=1) rfl isAgg111 rfl rfl) (rfl)) ?_;refine B 1 ?_;refine rv rfl rfl rfl (RV.re (v':=.agg (dg x.commit)) (ldWA_r (i:=0) rfl isAgg43 sizeOf43 rfl (apo rfl)) (rfl)) ?_;refine rv rfl rfl rfl (RV.re (v':=.tuple #[.int .i64 (ao.getD 0),.bool ao.isSome]) (ag_look (f:=x.commit) rfl hag A2 hXa (λz hz=>by have h1:=na z hz;have h2:=na6 z hz;have h3:=na7 z hz;have h4:=(hag.lt z hz).2;exact zOb) rfl rfl) (by rw[hao])) ?_;refine B 9 ?_;rcases ao with _|a
  ·refine B 2 ?_;refine zlf ?_;refine B 6 ?_;refine zWd ?_;refine z2d ?_;exact⟨rfl,λy hy=>(azo.1 hy).elim (hall y) (λh=>by rw[agp.1 h];exact rt_none hao),rfl⟩
  refine B 2 ?_;refine zmh ?_;refine B 6 ?_;refine CJ.less (E':=[(0,_),(1,_),(2,_),(3,_),(4,_),(6,_),(7,_),(8,_),(9,_),(10,_),(11,_),(12,_),(14,_),(15,_),(16,_),(17,_),(19,_),(20,_),(21,_),(22,_),(23,_),(24,_),(25,_),(26,_),(27,_),(28,_),(29,_),(30,_),(31,_),(32,_),(33,_),(34,_),(35,_),(36,_),(37,_)]) zR ?_;refine nw 3 [.det [] _,.det [] _,.det [1] (.agg (dg (itID Z x)))] zM (xc (by exact λvals=>X.val rfl rfl (RV.re (v':=.map (some b20)) (ldW_r (i:=2) rfl isAgg109 rfl rfl) (rfl)) (λ_ _=>rfl)) (xc (by exact λvals=>X.val rfl rfl (RV.re (v':=.agg (itA x)) (ldWAw_r (i:=0) rfl isAgg56 sizeOf56 rfl rfl) (rfl)) (λ_ _=>rfl)) (xc (by exact λvals=>ni call9 rfl rfl (λW hS _=>nuf hZ x hxg.1 hxg.2.1 N W (aco hN (hS.links w A6).size) (hxg.2.2.up (abo _) (hS.same A6 hN (λk hk=>hX k zG) zQb)) (hg.old hS A6 (λk hk=>hX k zG) zQb) (hgp.old hg hS A6 (λk hk=>hX k zG) zQb)) (λ_=>rfl)) (xn)))) zM zM zM (λvals=>?_);refine call call30 rfl rfl rfl (λW hS=>by have h9:=setD_has b20 (dset del) m20 hm20 (itID Z x) W (hS.old A3 hs20 hX20 zOb);rw[dset_has]at h9;exact h9) (v:=.bool (decide (dk (itID Z x)∈del))) ?_;refine B 7 ?_;refine nf (t:=43) rfl (λhc1=>?_) (λhc1=>?_)
  ·replace hc1:=ya hc1;refine B 6 ?_;refine nf (t:=49) rfl (λhc2=>?_) (λhc2=>?_)
   ·replace hc2:=ya hc2;refine zYd ?_;refine zxg ?_;refine OJ.off rfl (apo rfl) rfl ?_;refine B 6 ?_;exact z9i
   replace hc2:=ya hc2;refine B 3 ?_;refine nf (t:=52) rfl (λhc3=>?_) (λhc3=>?_)
   ·replace hc3:=ya hc3;refine B 8 ?_;refine zCD ?_ ?_
    ·intro hc4;refine B 2 ?_;exact z9i
    intro hc4;refine zWh ?_;exact zIi
   replace hc3:=ya hc3;refine zxg ?_;refine zpg ?_;exact zIi
  replace hc1:=ya hc1;refine zxg ?_;refine B 5 ?_;refine nf (t:=52) rfl (λhc5=>?_) (λhc5=>?_)
  ·replace hc5:=ya hc5;refine B 8 ?_;refine zCD ?_ ?_
   ·intro hc6;refine B 2 ?_;exact z9i
   intro hc6;refine zWh ?_;exact zIi
  replace hc5:=ya hc5;refine zxg ?_;refine zpg ?_;exact zIi
 ·rintro xs' l Dk rec G' Hc rfl haD hlD ⟨rfl,hall,rfl⟩;replace haD:=yb haD;refine nCg λWd hSd=>?_;have hbn:=nod hSd;refine B 4 ?_;refine z7g ?_;refine B 3 ?_;refine ret1cM (b4:=b6) (.inl rfl) results10 isAgg39 rfl zjc A2 (hbn _ A2).1 rfl (λW H' hS hmap=>⟨0,rfl,?_,q5,hag.s,rtI_yes hall⟩);exact zhj
 rintro l Dk rec c G' Hc haD hlD ⟨rfl,rfl,⟨x,hxm,hbad⟩,rfl⟩;replace haD:=yb haD;refine CJ.st2 λWd hSd=>?_;have hbn:=nod hSd;refine B 3 ?_;refine ret1cM (b4:=b6) (.inl rfl) results10 isAgg39 rfl zjc A2 (hbn _ A2).1 rfl (λW H' hS hmap=>⟨460,rfl,?_,q5,hag.s,rtI_no hxm hbad⟩);exact zhj
def fw23 (c:Cm):Bool:=c.bxs.all (λx=>decide (x.w.body.length<=200))&&c.wes.all (λx=>decide (x.w.body.length<=200))&&decide (c.chs.length<=10)&&decide (c.path.length<=12)&&decide (c.bxs.length<=40)&&decide (c.wes.length<=10)
theorem nhe{α:Type}{f:α->Bool}{xs:List α}{x:α}(h:(xs.take j).all f=true)(hx:xs[j]? =some x)(hf:f x=true):(xs.take (j+1)).all f=true:=by rw[np hx,List.all_append,h];simp[hf]
theorem nWe{α:Type}{f:α->Bool}{xs:List α}(h:(xs.take j).all f=true)(hj:¬j<xs.length):xs.all f=true:=by rw[afp zG]at h;exact h
theorem nQb{α:Type}{f:α->Bool}{xs:List α}{x:α}(hx:xs[j]? =some x)(hf:f x=false):xs.all f=false:=by
 rw[Bool.eq_false_iff];intro h;have:=aPo.1 h x (ajo hx);rw[hf]at this;cases this
theorem r29_Few(x:It)(w:World):Calls prog 16 #[.agg (itA x)] w (Ret w (.bool (decide (x.body.length<=1200)))):=by
 refine enter (vs:=[_]) func16 rfl ntmps16 rfl ?_;refine B 3 ?_;intro b1 w1 hb1 ha1 ho1 hm1 hz1;replace ha1:=yb ha1;replace ho1:=yc ho1;refine B 13 ?_;refine retV results16 rfl A1 ?_;exact congrArg Value.bool (by rw[aZo];simp;omega)
theorem ndj(l:List Ch)(a:Option Addr)(c:Nat)(w:World):Calls prog 75 #[.slice a l.length c] w (Ret w (.bool (decide (l.length<=10)))):=by
 refine enter (vs:=[_]) func75 rfl ntmps75 rfl ?_;refine B 14 ?_;refine retV results75 rfl A0 ?_;exact congrArg Value.bool (by rw[aZo];simp;omega)
theorem nim(c:Cm)(N:Nat)(w:World)(hN:N<=w.heap.size)(hC:CmAt N w c)(hbl:c.bxs.length<=9223372036854775807)(hwl:c.wes.length<=9223372036854775807):Calls prog 45 #[.agg (cmA c)] w (Ret w (.bool (fw23 c))):=by
 refine enter (vs:=[_]) func45 rfl ntmps45 rfl ?_;refine B 3 ?_;intro b1 w1 hb1 ha1 ho1 hm1 hz1;replace ha1:=yb ha1;replace ho1:=yc ho1;refine B 10 ?_;refine CJ.loop (α:=Nat) (λj=>[(1,ptr b1 0),(3,.int .i64 (j:Int))]) (λj=>[]) (λj=>[w1,w]) (λj=>Gh.no) (λj=>j<=c.bxs.length/\(c.bxs.take j).all (λx:Bx=>decide (x.w.body.length<=200))=true) (λj=>c.bxs.length-j) 0 ⟨a3o _,rfl⟩ ⟨rfl,rfl,trivial⟩ rfl rfl zS ?_;rintro j ⟨hj,hbx⟩;refine B 10 ?_;refine zCD ?_ ?_
 ·intro hc1;refine B 5 ?_;obtain⟨b0,o0,cs0,t0,fr0,hpe,hb0,hcs,hel0⟩:=hC.bxs.get zG;obtain⟨y,hy⟩:=nj c.bxs j zG;refine B 2 ?_;refine rv rfl rfl rfl (RV.re (v':=.slice (some ⟨b0,o0,none⟩) c.bxs.length c.bc) (ldR_r isAgg99 rfl A0 hb1 hm1 trivial rfl) (congrArg (λq=>Value.slice q c.bxs.length c.bc) hpe)) ?_;refine B 4 ?_;refine rv rfl rfl rfl (ldR_r (v:=.slice y.w.ba y.w.body.length y.w.bc) isAgg52 rfl A1 hcs zO trivial (by have:=nQ hel0 hy rfl 3 zI;simpa[bxA]using this)) ?_;refine B 4 ?_;refine zCD ?_ ?_
  ·intro hc2;refine B 11 ?_;exact zqi
  intro hc2;refine B 8 ?_;refine PJ.again (j+1) ⟨by omega,nhe hbx hy (decide_eq_true zG)⟩ zG ⟨rfl,rfl,trivial⟩ rfl rfl zS
 intro hc1;refine B 7 ?_;have hab:=nWe hbx zG;refine B 5 ?_;refine CJ.loop (α:=Nat) (λj=>[(1,ptr b1 0),(4,.int .i64 (j:Int))]) (λj=>[]) (λj=>[w1,w]) (λj=>Gh.no) (λj=>j<=c.wes.length/\(c.wes.take j).all (λx:We=>decide (x.w.body.length<=200))=true) (λj=>c.wes.length-j) 0 ⟨a3o _,rfl⟩ ⟨rfl,rfl,trivial⟩ rfl rfl zS ?_;rintro j ⟨hj,hwx⟩;refine B 10 ?_;refine zCD ?_ ?_
 ·intro hc3;refine B 5 ?_;obtain⟨b0,o0,cs0,t0,fr0,hpe,hb0,hcs,hel0⟩:=hC.wes.get zG;obtain⟨y,hy⟩:=nj c.wes j zG;refine B 2 ?_;refine rv rfl rfl rfl (RV.re (v':=.slice (some ⟨b0,o0,none⟩) c.wes.length c.wc) (ldR_r isAgg100 rfl A0 hb1 hm1 trivial rfl) (congrArg (λq=>Value.slice q c.wes.length c.wc) hpe)) ?_;refine B 4 ?_;refine rv rfl rfl rfl (ldR_r (v:=.slice y.w.ba y.w.body.length y.w.bc) isAgg52 rfl A1 hcs zO trivial (by have:=nQ hel0 hy rfl 2 zI;simpa[weA]using this)) ?_;refine B 4 ?_;refine zCD ?_ ?_
  ·intro hc4;refine B 11 ?_;exact zqi
  intro hc4;refine B 8 ?_;refine PJ.again (j+1) ⟨by omega,nhe hwx hy (decide_eq_true zG)⟩ zG ⟨rfl,rfl,trivial⟩ rfl rfl zS
 intro hc3;refine B 6 ?_;have haw:=nWe hwx zG;refine B 3 ?_;refine call call75 rfl rfl rfl (λW hS=>ndj c.chs c.ca c.cc W) ?_;refine B 1 ?_;refine nf (t:=40) rfl (λhc5=>?_) (λhc5=>?_)
 ·replace hc5:=ya hc5;refine B 6 ?_;refine nf (t:=46) rfl (λhc6=>?_) (λhc6=>?_)
  ·replace hc6:=ya hc6;refine B 6 ?_;refine nf (t:=52) rfl (λhc7=>?_) (λhc7=>?_)
   ·replace hc7:=ya hc7;refine B 9 ?_;exact zqi
   replace hc7:=ya hc7;refine B 9 ?_;exact zqi
  replace hc6:=ya hc6;refine B 15 ?_;exact zqi
 replace hc5:=ya hc5;refine B 21 ?_;exact zqi
structure Od where
 f:Nat->Int
 u:Int
 ba:Option Addr
 bn:Nat
 bc:Nat
def odA (x:Od):Array Value:=#[.int .u8 (x.f 0),.int .u8 (x.f 1),.int .u8 (x.f 2),.int .u8 (x.f 3),.int .u8 (x.f 4),.int .u8 (x.f 5),.int .u8 (x.f 6),.int .u8 (x.f 7),.int .u8 (x.f 8),.int .u8 (x.f 9),.int .u8 (x.f 10),.int .u8 (x.f 11),.int .u8 (x.f 12),.int .u8 (x.f 13),.int .u8 (x.f 14),.int .u8 (x.f 15),.int .u8 (x.f 16),.int .u8 (x.f 17),.int .u8 (x.f 18),.int .u8 (x.f 19),.int .u8 (x.f 20),.int .u8 (x.f 21),.int .u8 (x.f 22),.int .u8 (x.f 23),.int .u8 (x.f 24),.int .u8 (x.f 25),.int .u8 (x.f 26),.int .u8 (x.f 27),.int .u8 (x.f 28),.int .u8 (x.f 29),.int .u8 (x.f 30),.int .u8 (x.f 31),.int .i64 x.u,.slice x.ba x.bn x.bc]
structure Gn where
 folder:Int
 by_:Int
 device:Int
 pub:Int
 f:Nat->Int
 oa:Option Addr
 olds:List Od
 oc:Nat
 sr:Int
 ss:Int
def gnA (x:Gn):Array Value:=#[.int .i64 x.folder,.int .i64 x.by_,.int .i64 x.device,.int .i64 x.pub,.int .u8 (x.f 0),.int .u8 (x.f 1),.int .u8 (x.f 2),.int .u8 (x.f 3),.int .u8 (x.f 4),.int .u8 (x.f 5),.int .u8 (x.f 6),.int .u8 (x.f 7),.int .u8 (x.f 8),.int .u8 (x.f 9),.int .u8 (x.f 10),.int .u8 (x.f 11),.int .u8 (x.f 12),.int .u8 (x.f 13),.int .u8 (x.f 14),.int .u8 (x.f 15),.int .u8 (x.f 16),.int .u8 (x.f 17),.int .u8 (x.f 18),.int .u8 (x.f 19),.int .u8 (x.f 20),.int .u8 (x.f 21),.int .u8 (x.f 22),.int .u8 (x.f 23),.int .u8 (x.f 24),.int .u8 (x.f 25),.int .u8 (x.f 26),.int .u8 (x.f 27),.int .u8 (x.f 28),.int .u8 (x.f 29),.int .u8 (x.f 30),.int .u8 (x.f 31),.slice x.oa x.olds.length x.oc,.int .i64 x.sr,.int .i64 x.ss]
structure Ih where
 f:Nat->Int
 g:Nat->Int
 by_:Int
 ba:Option Addr
 bn:Nat
 bc:Nat
 sr:Int
 ss:Int
def ihA (x:Ih):Array Value:=#[.int .u8 (x.f 0),.int .u8 (x.f 1),.int .u8 (x.f 2),.int .u8 (x.f 3),.int .u8 (x.f 4),.int .u8 (x.f 5),.int .u8 (x.f 6),.int .u8 (x.f 7),.int .u8 (x.f 8),.int .u8 (x.f 9),.int .u8 (x.f 10),.int .u8 (x.f 11),.int .u8 (x.f 12),.int .u8 (x.f 13),.int .u8 (x.f 14),.int .u8 (x.f 15),.int .u8 (x.f 16),.int .u8 (x.f 17),.int .u8 (x.f 18),.int .u8 (x.f 19),.int .u8 (x.f 20),.int .u8 (x.f 21),.int .u8 (x.f 22),.int .u8 (x.f 23),.int .u8 (x.f 24),.int .u8 (x.f 25),.int .u8 (x.f 26),.int .u8 (x.f 27),.int .u8 (x.f 28),.int .u8 (x.f 29),.int .u8 (x.f 30),.int .u8 (x.f 31),.int .u8 (x.g 0),.int .u8 (x.g 1),.int .u8 (x.g 2),.int .u8 (x.g 3),.int .u8 (x.g 4),.int .u8 (x.g 5),.int .u8 (x.g 6),.int .u8 (x.g 7),.int .u8 (x.g 8),.int .u8 (x.g 9),.int .u8 (x.g 10),.int .u8 (x.g 11),.int .u8 (x.g 12),.int .u8 (x.g 13),.int .u8 (x.g 14),.int .u8 (x.g 15),.int .u8 (x.g 16),.int .u8 (x.g 17),.int .u8 (x.g 18),.int .u8 (x.g 19),.int .u8 (x.g 20),.int .u8 (x.g 21),.int .u8 (x.g 22),.int .u8 (x.g 23),.int .u8 (x.g 24),.int .u8 (x.g 25),.int .u8 (x.g 26),.int .u8 (x.g 27),.int .u8 (x.g 28),.int .u8 (x.g 29),.int .u8 (x.g 30),.int .u8 (x.g 31),.int .i64 x.by_,.slice x.ba x.bn x.bc,.int .i64 x.sr,.int .i64 x.ss]
def fw24 (cs:List Cm):Bool:=decide (cs.length<=7)&&cs.all fw23
structure CmLim (c:Cm):Prop where
 b:c.bxs.length<=9223372036854775807
 w:c.wes.length<=9223372036854775807
theorem r24_Few(cs:List Cm)(hlm:∀c∈cs,CmLim c)(N:Nat)(la:Option Addr)(lc:Nat)(w:World)(hN:N<=w.heap.size)(hsl:SlAt cmA 73 N w la cs)(hC:∀c∈cs,CmAt N w c):Calls prog 18 #[.slice la cs.length lc] w (Ret w (.bool (fw24 cs))):=by
 refine enter (vs:=[_]) func18 rfl ntmps18 rfl ?_;refine B 13 ?_;refine zCD ?_ ?_
 ·intro hc1;refine B 7 ?_;exact zJi
 intro hc1;refine B 9 ?_;refine CJ.loop (α:=Nat) (λj=>[(0,.slice la cs.length lc),(3,.int .i64 (j:Int))]) (λj=>[]) (λj=>[w]) (λj=>Gh.no) (λj=>j<=cs.length/\(cs.take j).all fw23=true) (λj=>cs.length-j) 0 ⟨a3o _,rfl⟩ ⟨rfl,rfl,trivial⟩ rfl rfl zS ?_;rintro j ⟨hj,hcx⟩;refine B 9 ?_;refine zCD ?_ ?_
 ·intro hc2;refine B 5 ?_;obtain⟨bl,ol,csl,tl,frl,rfl,hbl,hcsl,hell⟩:=hsl.get zG;obtain⟨c,hc⟩:=nj cs j zG;have hcm:=ajo hc;refine B 4 ?_;refine rv rfl rfl rfl (RV.re (v':=.agg (cmA c)) (ldRA_r isAgg102 sizeOf102 rfl A0 hcsl zO trivial (nk hell hc rfl)) (congrArg Value.agg (nl hell hc rfl))) ?_;refine call call45 rfl rfl rfl (λW hS=>nim c N W (aco hN (hS.links w A0).size) ((hC c hcm).up (abo _) (hS.same A0 hN zN trivial)) (hlm c hcm).b (hlm c hcm).w) ?_;refine B 3 ?_;refine zCD ?_ ?_
  ·intro hc3;refine B 11 ?_;exact zJi
  intro hc3;refine B 8 ?_;refine PJ.again (j+1) ⟨by omega,nhe hcx hc (by simpa using ‹_›)⟩ zG ⟨rfl,rfl,trivial⟩ rfl rfl zS
 intro hc2;refine B 6 ?_;have hall:=nWe hcx zG;refine B 5 ?_;exact zJi
theorem n3j(fa:Option Addr)(fl fc:Nat)(cs:List Cm)(hlm:∀c∈cs,CmLim c)(N:Nat)(la:Option Addr)(lc:Nat)(w:World)(hN:N<=w.heap.size)(hsl:SlAt cmA 73 N w la cs)(hC:∀c∈cs,CmAt N w c)(ia:Option Addr)(il ic:Nat)(rx:Rx)(gs:List Gn)(hgn:rx.n3=gs.length)(hgs:SlAt gnA 39 N w rx.a3 gs)(hgo:∀g∈gs,SlAt odA 34 N w g.oa g.olds)(is:List Ih)(hin:rx.n4=is.length)(his:SlAt ihA 68 N w rx.a4 is):Calls prog 44 #[.agg (rcA fa fl fc la cs.length lc ia il ic rx)] w (RetX w (λb:Bool=>.bool b) (λb _=>b=true->cs.length<=5/\cs.all fw23=true)):=by
 refine enter (vs:=[_]) func44 rfl ntmps44 rfl ?_;refine B 3 ?_;intro b1 w1 hb1 ha1 ho1 hm1 hz1;replace ha1:=yb ha1;replace ho1:=yc ho1;refine B 11 ?_;refine nf (t:=11) rfl (λhc1=>?_) (λhc1=>?_)
 ·replace hc1:=ya hc1;refine B 27 ?_;exact zCi
 replace hc1:=ya hc1;refine B 1 ?_;refine z0g ?_;refine B 4 ?_;refine nf (t:=17) rfl (λhc2=>?_) (λhc2=>?_)
 ·replace hc2:=ya hc2;refine B 21 ?_;exact zCi
 replace hc2:=ya hc2;refine B 1 ?_;refine z4f ?_;refine B 4 ?_;refine nf (t:=23) rfl (λhc3=>?_) (λhc3=>?_)
 ·replace hc3:=ya hc3;refine B 15 ?_;exact zCi
 replace hc3:=ya hc3;refine B 1 ?_;refine z3f ?_;refine B 5 ?_;refine zCD ?_ ?_
 ·intro hc4;refine B 7 ?_;exact zCi
 intro hc4;refine B 9 ?_;refine CJ.loop (α:=Nat) (λj=>[(1,ptr b1 0),(3,.int .i64 (j:Int))]) (λj=>[]) (λj=>[w1,w]) (λj=>Gh.no) (λj=>j<=cs.length/\(cs.take j).all fw23=true) (λj=>cs.length-j) 0 ⟨a3o _,rfl⟩ ⟨rfl,rfl,trivial⟩ rfl rfl zS ?_;rintro j ⟨hj,hcx⟩;refine B 5 ?_;refine z0g ?_;refine B 4 ?_;refine zCD ?_ ?_
 ·intro hc5;refine B 5 ?_;obtain⟨bl,ol,csl,tl,frl,hpe,hbl,hcsl,hell⟩:=hsl.get zG;obtain⟨c,hc⟩:=nj cs j zG;have hcm:=ajo hc;refine B 2 ?_;refine z1e ?_;refine B 2 ?_;refine rv rfl rfl rfl (RV.re (v':=.agg (cmA c)) (ldRA_r isAgg102 sizeOf102 rfl A1 hcsl zO trivial (nk hell hc rfl)) (congrArg Value.agg (nl hell hc rfl))) ?_;refine call call45 rfl rfl rfl (λW hS=>nim c N W (aco hN (hS.links w A1).size) ((hC c hcm).up (abo _) (hS.same A1 hN zN trivial)) (hlm c hcm).b (hlm c hcm).w) ?_;refine B 2 ?_;refine nf (t:=43) rfl (λhc6=>?_) (λhc6=>?_)
  ·replace hc6:=ya hc6;refine B 33 ?_;exact zCi
  replace hc6:=ya hc6;refine B 1 ?_;refine z1e ?_;refine B 3 ?_;refine rv rfl rfl rfl (ldR_r (v:=.slice c.ba c.bxs.length c.bc) isAgg99 rfl A1 hcsl zO trivial (by have:=nQ hell hc rfl 37 zI;simpa[cmA]using this)) ?_;refine B 4 ?_;refine nf (t:=53) rfl (λhc7=>?_) (λhc7=>?_)
  ·replace hc7:=ya hc7;refine B 23 ?_;exact zCi
  replace hc7:=ya hc7;refine B 1 ?_;refine z1e ?_;refine B 3 ?_;refine rv rfl rfl rfl (ldR_r (v:=.slice c.wa c.wes.length c.wc) isAgg100 rfl A1 hcsl zO trivial (by have:=nQ hell hc rfl 38 zI;simpa[cmA]using this)) ?_;refine B 5 ?_;refine zCD ?_ ?_
  ·intro hc8;refine B 11 ?_;exact zCi
  intro hc8;refine B 8 ?_;refine PJ.again (j+1) ⟨by omega,nhe hcx hc zwb⟩ zG ⟨rfl,rfl,trivial⟩ rfl rfl zS
 intro hc5;refine B 7 ?_;have hall:=nWe hcx zG;refine B 5 ?_;refine CJ.loop (α:=Nat) (λj=>[(1,ptr b1 0),(4,.int .i64 (j:Int))]) (λj=>[]) (λj=>[w1,w]) (λj=>Gh.no) (λj=>j<=gs.length) (λj=>gs.length-j) 0 (a3o _) ⟨rfl,rfl,trivial⟩ rfl rfl zS ?_;rintro j hj;refine B 5 ?_;refine z4f ?_;refine B 4 ?_;refine zCD ?_ ?_
 ·intro hc9;refine B 6 ?_;obtain⟨bg,og,csg,tg,frg,hpg,hbg,hcsg,helg⟩:=hgs.get zG;obtain⟨g,hgg⟩:=nj gs j zG;have hos:=hgo g (ajo hgg);refine B 2 ?_;refine zAf ?_;refine B 3 ?_;refine zgh ?_;refine B 4 ?_;refine zCD ?_ ?_
  ·intro hc10;refine B 12 ?_;exact zCi
  intro hc10;refine B 8 ?_;refine CJ.loop (α:=Nat) (λi=>[(1,ptr b1 0),(4,.int .i64 (j:Int)),(5,.int .i64 (i:Int))]) (λi=>[]) (λi=>[w1,w]) (λi=>Gh.no) (λi=>i<=g.olds.length) (λi=>g.olds.length-i) 0 (a3o _) zR rfl rfl zS ?_;rintro i hi;refine B 5 ?_;refine zAf ?_;refine B 3 ?_;refine zgh ?_;refine B 4 ?_;refine zCD ?_ ?_
  ·intro hc11;refine B 5 ?_;obtain⟨bo,oo,cso,to,fro,hpo,hbo,hcso,helo⟩:=hos.get zG;obtain⟨o,hoo⟩:=nj g.olds i zG;refine B 2 ?_;refine zAf ?_;refine B 3 ?_;refine rv rfl rfl rfl (RV.re (v':=.slice (some ⟨bo,oo,none⟩) g.olds.length g.oc) (ldR_r (v:=.slice g.oa g.olds.length g.oc) isAgg174 rfl A1 hcsg zO trivial zJd) (congrArg (λq=>Value.slice q g.olds.length g.oc) hpo)) ?_;refine B 4 ?_;refine rv rfl rfl rfl (ldR_r (v:=.slice o.ba o.bn o.bc) isAgg52 rfl A1 hcso zO trivial (by have:=nQ helo hoo rfl 33 zI;simpa[odA]using this)) ?_;refine B 4 ?_;refine zCD ?_ ?_
   ·intro hc12;refine B 15 ?_;exact zCi
   intro hc12;refine B 8 ?_;refine PJ.again (i+1) zG zG zR rfl rfl zS
  intro hc11;refine B 11 ?_;refine PJ.again (j+1) zG zG ⟨rfl,rfl,trivial⟩ rfl rfl zS
 intro hc9;refine B 12 ?_;refine CJ.loop (α:=Nat) (λj=>[(1,ptr b1 0),(6,.int .i64 (j:Int))]) (λj=>[]) (λj=>[w1,w]) (λj=>Gh.no) (λj=>j<=is.length) (λj=>is.length-j) 0 (a3o _) ⟨rfl,rfl,trivial⟩ rfl rfl zS ?_;rintro j hj;refine B 5 ?_;refine z3f ?_;refine B 4 ?_;refine zCD ?_ ?_
 ·intro hc13;refine B 5 ?_;obtain⟨bi,oi,csi,ti,fri,hpi,hbi,hcsi,heli⟩:=his.get zG;obtain⟨o,hoo⟩:=nj is j zG;refine B 2 ?_;refine rv rfl rfl rfl (RV.re (v':=.slice (some ⟨bi,oi,none⟩) is.length rx.c4) (ldR_r isAgg26 rfl A0 hb1 hm1 trivial rfl) (by show Value.slice rx.a4 rx.n4 rx.c4=_;rw[hpi,hin])) ?_;refine B 3 ?_;refine rv rfl rfl rfl (ldR_r (v:=.slice o.ba o.bn o.bc) isAgg52 rfl A1 hcsi zO trivial (by have:=nQ heli hoo rfl 65 zI;simpa[ihA]using this)) ?_;refine B 4 ?_;refine zCD ?_ ?_
  ·intro hc14;refine B 11 ?_;exact zCi
  intro hc14;refine B 8 ?_;refine PJ.again (j+1) zG zG ⟨rfl,rfl,trivial⟩ rfl rfl zS
 intro hc13;refine B 11 ?_;refine nE true results44 rfl A1 rfl ?_;exact λW hS h=>⟨by omega,hall⟩
theorem r45_Few(fa:Option Addr)(fl fc:Nat)(cs:List Cm)(hlm:∀c∈cs,CmLim c)(N:Nat)(la:Option Addr)(lc:Nat)(w:World)(hN:N<=w.heap.size)(hsl:SlAt cmA 73 N w la cs)(hC:∀c∈cs,CmAt N w c)(ia:Option Addr)(il ic:Nat)(rx:Rx)(gs:List Gn)(hgn:rx.n3=gs.length)(hgs:SlAt gnA 39 N w rx.a3 gs)(hgo:∀g∈gs,SlAt odA 34 N w g.oa g.olds)(is:List Ih)(hin:rx.n4=is.length)(his:SlAt ihA 68 N w rx.a4 is):Calls prog 17 #[.agg (rcA fa fl fc la cs.length lc ia il ic rx),.slice none 0 0] w (RetX w (λb:Bool=>.bool b) (λb _=>b=true->(cs.length<=5/\cs.all fw23=true)/\il<=4)):=by
 refine enter (vs:=[_,_]) func17 rfl ntmps17 rfl ?_;refine B 3 ?_;intro b2 w2 hb2 ha2 ho2 hm2 hz2;replace ha2:=yb ha2;replace ho2:=yc ho2;refine B 5 ?_;refine rv rfl rfl rfl (RV.re (v':=.agg (rcA fa fl fc la cs.length lc ia il ic rx)) (ldRAw_r isAgg31 sizeOf31 rfl A0 hb2 hm2 trivial rfl) (rfl)) ?_;refine nq (α:=Bool) (v:=λb=>.bool b) (Φ:=λ_ b _=>b=true->cs.length<=5/\cs.all fw23=true) call44 rfl rfl rfl (λW hS=>n3j fa fl fc cs hlm N la lc W (aco hN (hS.links w A1).size) (hsl.up (abo _) (hS.same A1 hN zN trivial)) (λc hc=>(hC c hc).up (abo _) (hS.same A1 hN zN trivial)) ia il ic rx gs hgn (hgs.up (abo _) (hS.same A1 hN zN trivial)) (λg hg=>(hgo g hg).up (abo _) (hS.same A1 hN zN trivial)) is hin (his.up (abo _) (hS.same A1 hN zN trivial))) ?_;intro Wf bf wf hSf hBf hfr;refine B 1 ?_;refine nf (t:=7) rfl (λhc1=>?_) (λhc1=>?_)
 ·replace hc1:=ya hc1;refine B 6 ?_;refine nf (t:=13) rfl (λhc2=>?_) (λhc2=>?_)
  ·replace hc2:=ya hc2;refine B 6 ?_;refine nf (t:=19) rfl (λhc3=>?_) (λhc3=>?_)
   ·replace hc3:=ya hc3;refine B 6 ?_;refine nf (t:=25) rfl (λhc4=>?_) (λhc4=>?_)
    ·replace hc4:=ya hc4;refine B 6 ?_;refine nf (t:=31) rfl (λhc5=>?_) (λhc5=>?_)
     ·replace hc5:=ya hc5;refine B 8 ?_;exact zji
     replace hc5:=ya hc5;refine B 8 ?_;exact zji
    replace hc4:=ya hc4;refine B 14 ?_;exact zji
   replace hc3:=ya hc3;refine B 20 ?_;exact zji
  replace hc2:=ya hc2;refine B 26 ?_;exact zji
 replace hc1:=ya hc1;refine B 32 ?_;exact zji
theorem r46_Few(fa:Option Addr)(fl fc:Nat)(cs:List Cm)(hlm:∀c∈cs,CmLim c)(N:Nat)(la:Option Addr)(lc:Nat)(w:World)(hN:N<=w.heap.size)(hsl:SlAt cmA 73 N w la cs)(hC:∀c∈cs,CmAt N w c)(ia:Option Addr)(its:List It)(ic:Nat)(hil:its.length<=9223372036854775807)(hits:SlAt itA 74 N w ia its)(rx:Rx)(gs:List Gn)(hgn:rx.n3=gs.length)(hgs:SlAt gnA 39 N w rx.a3 gs)(hgo:∀g∈gs,SlAt odA 34 N w g.oa g.olds)(is:List Ih)(hin:rx.n4=is.length)(his:SlAt ihA 68 N w rx.a4 is):Calls prog 6 #[.agg (rcA fa fl fc la cs.length lc ia its.length ic rx),.slice none 0 0] w (RetX w (λb:Bool=>.bool b) (λb _=>b=true->((cs.length<=5/\cs.all fw23=true)/\its.length<=4)/\its.all (λx:It=>decide (x.body.length<=1200))=true)):=by
 refine enter (vs:=[_,_]) func6 rfl ntmps6 rfl ?_;refine B 3 ?_;intro b2 w2 hb2 ha2 ho2 hm2 hz2;replace ha2:=yb ha2;replace ho2:=yc ho2;refine B 10 ?_;refine CJ.loop (α:=Nat) (λj=>[(1,.slice none 0 0),(2,ptr b2 0),(5,.int .i64 (j:Int))]) (λj=>[]) (λj=>[w2,w]) (λj=>Gh.no) (λj=>j<=its.length/\(its.take j).all (λx:It=>decide (x.body.length<=1200))=true) (λj=>its.length-j) 0 ⟨a3o _,rfl⟩ zR rfl rfl zS ?_;rintro j ⟨hj,hix⟩;refine B 10 ?_;refine zCD ?_ ?_
 ·intro hc1;refine B 5 ?_;obtain⟨bl,ol,csl,tl,frl,hpe,hbl,hcsl,hell⟩:=hits.get zG;obtain⟨x,hx⟩:=nj its j zG;refine B 2 ?_;refine rv rfl rfl rfl (RV.re (v':=.slice (some ⟨bl,ol,none⟩) its.length ic) (ldR_r isAgg29 rfl A0 hb2 hm2 trivial rfl) (congrArg (λq=>Value.slice q its.length ic) hpe)) ?_;refine B 2 ?_;refine rv rfl rfl rfl (RV.re (v':=.agg (itA x)) (ldRA_r isAgg56 sizeOf56 rfl A1 hcsl zO trivial (nk hell hx rfl)) (congrArg Value.agg (nl hell hx rfl))) ?_;refine call call16 rfl rfl rfl (λW hS=>r29_Few _ W) ?_;refine B 3 ?_;refine zCD ?_ ?_
  ·intro hc2;refine B 11 ?_;refine nE _ results6 rfl A1 rfl ?_;exact zYi
  intro hc2;refine B 8 ?_;refine PJ.again (j+1) ⟨by omega,nhe hix hx zwb⟩ zG zR rfl rfl zS
 intro hc1;refine B 6 ?_;have hall:=nWe hix zG;refine B 1 ?_;refine rv rfl rfl rfl (RV.re (v':=.agg (rcA fa fl fc la cs.length lc ia its.length ic rx)) (ldRAw_r isAgg31 sizeOf31 rfl A0 hb2 hm2 trivial rfl) (rfl)) ?_;refine B 1 ?_;refine nq (α:=Bool) (v:=λb=>.bool b) (Φ:=λ_ b _=>b=true->(cs.length<=5/\cs.all fw23=true)/\its.length<=4) call17 rfl rfl rfl (λW hS=>r45_Few fa fl fc cs hlm N la lc W (aco hN (hS.links w A1).size) (hsl.up (abo _) (hS.same A1 hN zN trivial)) (λc hc=>(hC c hc).up (abo _) (hS.same A1 hN zN trivial)) ia its.length ic rx gs hgn (hgs.up (abo _) (hS.same A1 hN zN trivial)) (λg hg=>(hgo g hg).up (abo _) (hS.same A1 hN zN trivial)) is hin (his.up (abo _) (hS.same A1 hN zN trivial))) ?_;intro Wf bf wf hSf hBf hfr;refine B 1 ?_;refine nf (t:=23) rfl (λhc3=>?_) (λhc3=>?_)
 ·replace hc3:=ya hc3;refine B 1 ?_;refine rv rfl rfl rfl (RV.re (v':=.slice la cs.length lc) (ldR_r isAgg24 rfl A1 hb2 hm2 trivial rfl) (rfl)) ?_;refine call call18 rfl rfl rfl (λW hS=>r24_Few cs hlm N la lc W (aco hN (hS.links w A2).size) (hsl.up (abo _) (hS.same A2 hN zN trivial)) (λc hc=>(hC c hc).up (abo _) (hS.same A2 hN zN trivial))) ?_;refine B 5 ?_;refine nE _ results6 rfl A2 rfl ?_;exact zYi
 replace hc3:=ya hc3;refine B 8 ?_;refine nE _ results6 rfl A2 rfl ?_;exact zYi
def ageG (l:List Gp) (k:Dk):Option Int:=(l.find? λg=>decide (dk g.last=k)).map λg=>((l[l.length-1]?).map (·.epoch)).getD 0-g.epoch
theorem eL_map(gs:List Gv):eL gs=(((gs.map λx:Gv=>x.g)[(gs.map λx:Gv=>x.g).length-1]?).map (·.epoch)).getD 0:=by
 unfold eL;rw[aAo,aSo];cases gs[gs.length-1]?<;>rfl
theorem agM_G(gs:List Gv)(k:Dk):gget (agM gs) k=ageG (gs.map λx:Gv=>x.g) k:=by
 rw[nNi,eL_map];unfold ageG;rw[List.find?_map,Option.map_map];rfl
noncomputable def lwB (Z:Fx) (del:List Dk) (p:Po) (l:List Gp) (x:It):Bool:=match ageG l (dk x.commit)with|none=>true|some a=>if dk (itID Z x)∈del then decide (p.least<=a)else decide (a<=p.most)
noncomputable def lwO (Z:Fx) (del:List Dk) (p:Po) (l:List Gp) (x:It):Bool:=if x.folder=p.fo then lwB Z del p l x else true
def LwG (Z:Fx) (cs:List Cm) (fos:List Fo) (pf:Int) (gs:List Gv):Prop:=(fos.find? (λf:Fo=>decide (f.id=pf))=none/\gs=[])\/∃fo,fos.find? (λf:Fo=>decide (f.id=pf))=some fo/\ChX Z cs fo (gs.map λx:Gv=>x.g)
theorem nOe{α:Type}(p:α->Bool)(f:α->Bool):∀l:List α,(l.filter p).all f=l.all λx=>if p x=true then f x else true
 | []=>rfl
 |x::l=>by
  by_cases h:p x=true
  ·rw[aBp h,List.all_cons,List.all_cons,nOe p f l,if_pos h]
  rw[aCp h,List.all_cons,nOe p f l,if_neg h];rfl
theorem rt_lw{cs:List Cm}(hq:AgS Z cs fos p.fo q)(hg:LwG Z cs fos p.fo gs):rtI Z del p q its=if its.all (lwO Z del p (gs.map λx:Gv=>x.g))=true then 0 else 460:=by
 have key:∀x,rtB Z del p q x=lwB Z del p (gs.map λx:Gv=>x.g) x:=by
  intro x;have e:ageF q (dk x.commit)=ageG (gs.map λx:Gv=>x.g) (dk x.commit):=by
   rcases hg with⟨h1,rfl⟩|⟨fo,h1,h2⟩
   ·cases q with
    |none=>rfl
    |some z=>obtain⟨f2,h3,_⟩:=hq;rw[h1]at h3;cases h3
   cases q with
   |none=>have h3:fos.find? _=none:=hq;rw[h1]at h3;cases h3
   |some z=>
    obtain⟨f2,h3,h4⟩:=hq;rw[h1]at h3;cases h3;show gget (agM z.2) _=_;rw[agM_G,h4.uniq h2]
  unfold rtB lwB;rw[e];try (cases ageG (gs.map λx:Gv=>x.g) (dk x.commit)<;>rfl)
 unfold rtI itmL;rw[nOe];have e2:(λx:It=>if decide (x.folder=p.fo)=true then rtB Z del p q x else true)=lwO Z del p (gs.map λx:Gv=>x.g):=by
  funext x;unfold lwO;rw[key];try simp
 rw[e2]
theorem nqd{x:It}{g:Gv}(hn:NoTo (λg:Gv=>decide (dk g.g.last=dk x.commit)) gs k)(hg:gs[k]? =some g)(he:dk g.g.last=dk x.commit):lwB Z del p (gs.map λx:Gv=>x.g) x=if dk (itID Z x)∈del then decide (p.least<=eL gs-g.g.epoch)else decide (eL gs-g.g.epoch<=p.most):=by
 have h1:=nYe hn hg (by simpa using he);have h2:ageG (gs.map λx:Gv=>x.g) (dk x.commit)=some (eL gs-g.g.epoch):=by rw[<-agM_G,nNi,h1];rfl
 unfold lwB;rw[h2]
theorem lw_none{x:It}(hn:NoTo (λg:Gv=>decide (dk g.g.last=dk x.commit)) gs k)(hk:¬k<gs.length):lwB Z del p (gs.map λx:Gv=>x.g) x=true:=by
 have h1:=n4f hn hk;have h2:ageG (gs.map λx:Gv=>x.g) (dk x.commit)=none:=by rw[<-agM_G,nNi,h1];rfl
 unfold lwB;rw[h2]
def dmap (l:List Dk):List (Dk×Bool):=l.foldl (λs k=>gput s k true) []
theorem nBj(l:List Dk)(x:Dk):dmap (l++[x])=gput (dmap l) x true:=by unfold dmap;rw[awp];rfl
theorem ntk(k:Dk):∀(l:List Dk) (s:List (Dk×Bool)),(gget (l.foldl (λs k=>gput s k true) s) k).getD false=(decide (k∈l)||(gget s k).getD false)
 | [],s=>by simp
 |x::l,s=>by
  rw[List.foldl_cons,ntk k l,nFh];by_cases h:k=x
  ·simp[h]
  simp[h]
theorem nsh(l:List Dk)(k:Dk):(gget (dmap l) k).getD false=decide (k∈l):=by unfold dmap;rw[ntk];simp[gget,gidx]
def mV (f:Nat->Int) (d:Int):List V:=[.text (dT f),.int d]
theorem mV_fine(f:Nat->Int)(d:Int)(h:I64 d):V.fineL (mV f d):=by
 simp only[mV,V.fineL,V.fine,dT_size];exact⟨by decide,h,trivial⟩
def mgD (Z:Fx) (f:Nat->Int) (d:Int):Nat->Int:=Z.tg (⟨#[101,120,112,111,114,116]⟩:ByteArray) (V.list (mV f d)).enc
theorem mg_byt(hZ:FxOk Z)(f:Nat->Int)(d:Int):Byt (mgD Z f d):=hZ.byt _ _
abbrev DevOk (d:Int):Prop:=0<=d/\d<512
theorem DevOk.i64(h:DevOk d):I64 d:=⟨by omega,by omega⟩
def ownT (d:Int):Value:=if DevOk d then .tuple #[.int .i64 (d/8),.int .i64 0]else .tuple #[.int .i64 0,.int .i64 371]
theorem ngj(h:DevOk d):ownT d= .tuple #[.int .i64 (d/8),.int .i64 0]:=if_pos h
theorem nHi(h:¬DevOk d):ownT d= .tuple #[.int .i64 0,.int .i64 371]:=if_neg h
structure Cn where
 dev:Int
 r:Int
 s:Int
def cnC (c:Cn):Array Value:=#[.int .i64 c.dev,.int .i64 c.r,.int .i64 c.s]
def zCn:Cn:=⟨0,0,0⟩
def apC (Z:Fx) (f:Nat->Int) (d x:Int):Cn:=⟨d,sigR Z x (dgU (mgD Z f d)),sigS Z x (dgU (mgD Z f d))⟩
def apPv (Z:Fx) (f:Nat->Int) (d x:Int):Value:=if DevOk d then if KOk x then .tuple #[.agg (cnC (apC Z f d x)),.int .i64 0]else .tuple #[.agg (cnC zCn),.int .i64 50]else .tuple #[.agg (cnC zCn),.int .i64 1]
theorem apPv_ok(Z:Fx)(f:Nat->Int){x:Int}(h:DevOk d)(hk:KOk x):apPv Z f d x= .tuple #[.agg (cnC (apC Z f d x)),.int .i64 0]:=by unfold apPv;rw[if_pos h,if_pos hk]
theorem nej(Z:Fx)(f:Nat->Int){x:Int}(h:¬DevOk d):apPv Z f d x= .tuple #[.agg (cnC zCn),.int .i64 1]:=by unfold apPv;rw[if_neg h]
theorem nni(d:Int)(w:World):Calls prog 74 #[.int .i64 d] w (Ret w (.bool (decide (DevOk d)))):=by
 refine enter (vs:=[_]) func74 rfl ntmps74 rfl ?_;refine B 10 ?_;refine nf (t:=5) rfl (λhc1=>?_) (λhc1=>?_)
 ·replace hc1:=ya hc1;refine B 7 ?_;refine retV results74 rfl A0 ?_;refine congrArg Value.bool (aZo.2 ?_)
  (try simp only[decide_eq_true_eq,Bool.false_eq_true,false_iff,true_iff])
  first|omega|(intro h;omega)
 replace hc1:=ya hc1;refine B 7 ?_;refine retV results74 rfl A0 ?_;refine congrArg Value.bool (aZo.2 ?_)
 (try simp only[decide_eq_true_eq,Bool.false_eq_true,false_iff,true_iff])
 first|omega|(intro h;omega)
theorem nbg(d:Int)(w:World):Calls prog 37 #[.int .i64 d] w (Ret w (ownT d)):=by
 refine enter (vs:=[_]) func37 rfl ntmps37 rfl ?_;refine B 10 ?_;refine call call74 rfl rfl rfl (λW hS=>nni _ W) ?_;refine B 3 ?_;refine zCD ?_ ?_
 ·intro hc1;refine B 8 ?_;exact zOj
 intro hc1;refine B 5 ?_;refine rv rfl rfl rfl (quoI_r rfl rfl zG zG zG) ?_;refine B 5 ?_;exact zOj
theorem nfd(hZ:FxOk Z)(f:Nat->Int)(d:Int)(hd:I64 d)(w:World)(hg:Glb w):Calls prog 33 #[.agg (dg f),.int .i64 d] w (RetX w (λb:Nat=>.slice (some ⟨b,0,none⟩) 32 32) (λb w1=>w.heap.size<=b/\w1.heap[b]? =some (.cells (dg (mgD Z f d)) 43 (0,0)))):=by
 have hg4:=hg.lt;obtain⟨df,hdf⟩:∃df,mgD Z f d=df:=⟨_,rfl⟩;have hff:=nBe (mV f d) rfl (mV_fine f d hd) (by simp[mV]);refine enter (vs:=[_,_]) func33 rfl ntmps33 rfl ?_;refine B 3 ?_;intro b2 w2 hb2 ha2 ho2 hm2 hz2;replace ha2:=yb ha2;replace ho2:=yc ho2;refine B 5 ?_;refine zuf ?_;refine rv rfl rfl rfl (cvtD_r underlying52 underlying5 underlying9 rfl A0 hb2 hm2 trivial) ?_;refine zce ?_;refine B 1 ?_;refine zce ?_;refine bslR underlying147 sizeOf149 zeroValue149 rfl rfl rfl rfl rfl rfl rfl ?_;intro b14 w14 hb14 ha14 ho14 hm14 hz14;replace ha14:=yb ha14;replace ho14:=yc ho14;refine zce ?_;refine nEg (ys:=(V.list (mV f d)).enc) call54 rfl rfl rfl (λW hS=>nge (mV f d) hff.1 hff.2.1 hff.2.2 w14.heap.size (some ⟨b14,0,none⟩) 2 W (hS.links _ A0).size (nOi (sp:=[]) rfl zG (abo 2) (by rw[asp];exact hS.old A0 hb14 hm14 trivial))) ?_;intro b16 c16 s16 ha16 ho16 hx16 hr16;replace ha16:=yb ha16;replace ho16:=yd ho16;refine B 10 ?_;refine call call26 rfl rfl rfl (λW hS=>by rw[<-hdf];exact nZi hZ (⟨#[101,120,112,111,114,116]⟩:ByteArray) zI (V.list (mV f d)).enc zG b16 0 c16 hr16.le W (SegU.row (hS.own _ A0)) (hg.old hS A2 zN zH)) (v:=.agg (dg df)) ?_;refine z8e ?_;intro b7 ha7 ho7;replace ha7:=yb ha7;replace ho7:=yc ho7;refine zHe ?_;refine B 4 ?_;refine zuf ?_;refine B 4 ?_;exact retG (.inl rfl) results33 (RS.t rfl RS.n) (λW hS=>⟨b7,rfl,hS.base A2 zL,by omega,by rw[hdf];exact hS.own _ A0⟩)
theorem nSe(hZ:FxOk Z)(f:Nat->Int)(d x:Int)(w:World)(hg:Glb w):Calls prog 11 #[.agg (dg f),.int .i64 d,.int .i64 x] w (Ret w (apPv Z f d x)):=by
 have hg4:=hg.lt;have hB:=mg_byt hZ f d;obtain⟨mf,hmf⟩:∃mf,mgD Z f d=mf:=⟨_,rfl⟩;rw[hmf]at hB;obtain⟨r,hr⟩:∃r,sigR Z x (dgU mf)=r:=⟨_,rfl⟩;obtain⟨sg,hsg⟩:∃sg,sigS Z x (dgU mf)=sg:=⟨_,rfl⟩;refine enter (vs:=[_,_,_]) func11 rfl ntmps11 rfl ?_;refine B 3 ?_;intro b3 w3 hb3 ha3 ho3 hm3 hz3;replace ha3:=yb ha3;replace ho3:=yc ho3;refine zOg ?_;intro b6 ha6 ho6;replace ha6:=yb ha6;replace ho6:=yc ho6;refine B 9 ?_;refine nf (t:=12) rfl (λhc1=>?_) (λhc1=>?_)
 ·replace hc1:=ya hc1;refine B 9 ?_;refine zIh ?_;refine zJf ?_;rw[nej Z f zG];rfl
 replace hc1:=ya hc1;refine B 5 ?_;refine zCD ?_ ?_
 ·intro hc2;refine B 3 ?_;refine zIh ?_;refine zJf ?_;rw[nej Z f zG];rfl
 intro hc2;refine B 4 ?_;have hD:DevOk d:=⟨by omega,by omega⟩;refine B 2 ?_;by_cases hK:KOk x
 ·refine call call31 rfl rfl rfl (λW hS=>nMm hZ x hK W) ?_;refine B 10 ?_;refine zmg ?_;refine B 9 ?_;refine z1f ?_;refine B 5 ?_;refine rv rfl rfl rfl (ldRAw_r isAgg43 sizeOf43 rfl A0 hb3 hm3 zF rfl) ?_;refine B 1 ?_;refine nq (v:=λb:Nat=>.slice (some ⟨b,0,none⟩) 32 32) (Φ:=λ(W:World) (b:Nat) (v1:World)=>W.heap.size<=b/\v1.heap[b]? =some (.cells (dg mf) 43 (0,0))) call33 rfl rfl rfl (λW hS=>by rw[<-hmf];exact nfd hZ f d hD.i64 W (hg.old hS A1 zN zH)) ?_;rintro W32 b32 w32 hS32 hB32 ⟨hq32,hb32⟩;have hz32:=(ago.1 hb32).1;have hA32:=hS32.sizes;replace hA32:=yb hA32;have hB32s:=hB32.size;have hU32:=hS32.under;simp only[nH,adp,a9o]at hU32;refine call call32 rfl rfl rfl (λW hS=>n4n hZ x hK mf hB r sg hr hsg b32 _ _ W (hS.old A0 hb32 zO z8) (hg.old hS A2 zN zH)) ?_;refine B 4 ?_;refine stW (i:=0) rfl sizeOf54 rfl rfl rfl rfl (apo rfl) rfl ?_;refine B 5 ?_;refine zQe ?_;refine B 4 ?_;refine retO (.inl rfl) results11 (RS.wA (i:=0) rfl isAgg67 sizeOf67 rfl (apo rfl) (RS.t rfl (RS.n))) A2 zL ?_;unfold apPv apC;rw[if_pos hD,if_pos hK,hmf,hr,hsg];rfl
 refine call call31 rfl rfl rfl (λW hS=>pubG_no x hK W) ?_;refine B 10 ?_;refine zxe ?_;refine B 7 ?_;refine zIh ?_;refine zJf ?_;unfold apPv;rw[if_pos hD,if_neg hK];rfl
structure Ls where
 dev:Int
 ver:Int
 leaf:Int
 vsn:Int
 gone:Bool
def lsC (l:Ls):Array Value:=#[.int .i64 l.dev,.int .i64 l.ver,.int .i64 l.leaf,.int .i64 l.vsn,.bool l.gone]
structure Ex where
 it:Nat->Int
 ca:Option Addr
 cs:List Cn
 cc:Nat
def exC (y:Ex):Array Value:=#[.int .u8 (y.it 0),.int .u8 (y.it 1),.int .u8 (y.it 2),.int .u8 (y.it 3),.int .u8 (y.it 4),.int .u8 (y.it 5),.int .u8 (y.it 6),.int .u8 (y.it 7),.int .u8 (y.it 8),.int .u8 (y.it 9),.int .u8 (y.it 10),.int .u8 (y.it 11),.int .u8 (y.it 12),.int .u8 (y.it 13),.int .u8 (y.it 14),.int .u8 (y.it 15),.int .u8 (y.it 16),.int .u8 (y.it 17),.int .u8 (y.it 18),.int .u8 (y.it 19),.int .u8 (y.it 20),.int .u8 (y.it 21),.int .u8 (y.it 22),.int .u8 (y.it 23),.int .u8 (y.it 24),.int .u8 (y.it 25),.int .u8 (y.it 26),.int .u8 (y.it 27),.int .u8 (y.it 28),.int .u8 (y.it 29),.int .u8 (y.it 30),.int .u8 (y.it 31),.slice y.ca y.cs.length y.cc]
def ixL (d:Int) (ls:List Ls):Option Nat:=ls.findIdx? λl=>decide (l.dev=d)
def ixI (d:Int) (ls:List Ls):Int:=match ixL d ls with|some i=>(i:Int)|none=> -1
variable {ls:List Ls}
theorem ixL_hit{l:Ls}(hl:ls[j]? =some l)(h:∀x∈ls.take j,¬x.dev=d)(hp:l.dev=d):ixL d ls=some j:=by
 obtain⟨h1,h2⟩:=ako.1 hl;unfold ixL;rw[ajp];refine⟨h1,by rw[h2];exact decide_eq_true hp,λi hi=>?_⟩;have:=h (ls[i]'zG) (by rw[List.mem_take_iff_getElem];exact⟨i,by omega,rfl⟩);simp[this]
theorem ixL_none(h:∀x∈ls,¬x.dev=d):ixL d ls=none:=by
 unfold ixL;rw[akp];exact λx hx=>decide_eq_false (h x hx)
theorem ncm(h:ixL d ls=some j):∃l,ls[j]? =some l/\l.dev=d:=by
 unfold ixL at h;obtain⟨h1,h2,_⟩:=ajp.1 h;exact⟨ls[j],aNo h1,of_decide_eq_true h2⟩
theorem nph(h:ixL d ls=some j):ixI d ls=(j:Int):=by unfold ixI;rw[h]
theorem nGh(h:ixL d ls=none):ixI d ls= -1:=by unfold ixI;rw[h]
def cntO (Z:Fx) (ls:List Ls) (f:Nat->Int) (c:Cn):Option Int:=
 match(ixL c.dev ls).bind (ls[·]?)with
 |none=>none
 |some l=>if l.gone=false/\DevOk c.dev/\verB Z l.ver (dgU (mgD Z f c.dev)) c.r c.s=true then some (c.dev/8)else none
def cntL (Z:Fx) (ls:List Ls) (f:Nat->Int) (cs:List Cn):List Int:=cs.filterMap (cntO Z ls f)
theorem nJe(Z:Fx)(ls:List Ls)(f:Nat->Int)(cs:List Cn)(c:Cn):cntL Z ls f (cs++[c])=cntL Z ls f cs++(cntO Z ls f c).toList:=by
 unfold cntL;rw[List.filterMap_append];congr 1
theorem n3c{cs:List Cn}{c:Cn}(hc:cs[j]? =some c)(h:cntO Z ls f c=none):cntL Z ls f (cs.take (j+1))=cntL Z ls f (cs.take j):=by
 rw[np hc,nJe,h];simp
theorem noj{cs:List Cn}{c:Cn}{o:Int}(hc:cs[j]? =some c)(h:cntO Z ls f c=some o):cntL Z ls f (cs.take (j+1))=cntL Z ls f (cs.take j)++[o]:=by
 rw[np hc,nJe,h];rfl
theorem cntL_pre(Z:Fx)(ls:List Ls)(f:Nat->Int)(cs:List Cn)(j:Nat):cntL Z ls f (cs.take j) <+:cntL Z ls f cs:=by
 unfold cntL;exact(List.take_prefix j cs).filterMap _
theorem nmj{c:Cn}(h:ixL c.dev ls=none):cntO Z ls f c=none:=by unfold cntO;rw[h];rfl
theorem nKm{c:Cn}{l:Ls}(h:ixL c.dev ls=some i)(hl:ls[i]? =some l):cntO Z ls f c=if l.gone=false/\DevOk c.dev/\verB Z l.ver (dgU (mgD Z f c.dev)) c.r c.s=true then some (c.dev/8)else none:=by
 unfold cntO;rw[h];simp only[Option.bind_some,hl]
theorem nXg{c:Cn}{l:Ls}(h:ixL c.dev ls=some i)(hl:ls[i]? =some l)(hn:l.gone=true\/¬DevOk c.dev\/verB Z l.ver (dgU (mgD Z f c.dev)) c.r c.s=false):cntO Z ls f c=none:=by
 rw[nKm h hl,if_neg];rintro⟨g1,g2,g3⟩;rcases hn with hn|hn|hn
 ·rw[hn]at g1;cases g1
 ·exact hn g2
 rw[hn]at g3;cases g3
theorem nTk{c:Cn}{l:Ls}(h:ixL c.dev ls=some i)(hl:ls[i]? =some l)(h1:l.gone=false)(h2:DevOk c.dev)(h3:verB Z l.ver (dgU (mgD Z f c.dev)) c.r c.s=true):cntO Z ls f c=some (c.dev/8):=by
 rw[nKm h hl,if_pos ⟨h1,h2,h3⟩]
noncomputable def expI (Z:Fx) (p:Po) (ls:List Ls) (y:Ex):Int:=if chkI p=0 then if(setK (cntL Z ls y.it y.cs)).length=0\/(p.two=true/\(setK (cntL Z ls y.it y.cs)).length=1)then 460 else 0 else 460
theorem verG32(hZ:FxOk Z)(p r s:Int)(f:Nat->Int)(hf:Byt f)(b t:Nat)(fr:Nat×Nat)(w:World)(h:w.heap[b]? =some (.cells (dg f) t fr))(hg:Glb w):Calls prog 70 #[.int .i64 p,.slice (some ⟨b,0,none⟩) 32 32,.agg #[.int .i64 r,.int .i64 s]] w (Ret w (.bool (verB Z p (dgU f) r s))):=by
 have:=nyd hZ p r s (dgU f) b 0 32 (by rw[nKb];decide) w (SegU.dg h hf) hg;rwa[nKb]at this
theorem nxm(hZ:FxOk Z){p r s:Int}{bv:Bool}(hv:verB Z p (dgU f) r s=bv)(hf:Byt f)(b t:Nat)(fr:Nat×Nat)(w:World)(h:w.heap[b]? =some (.cells (dg f) t fr))(hg:Glb w):Calls prog 70 #[.int .i64 p,.slice (some ⟨b,0,none⟩) 32 32,.agg #[.int .i64 r,.int .i64 s]] w (Ret w (.bool bv)):=by
 subst hv;exact verG32 hZ p r s f hf b t fr w h hg
theorem nei(h:DevOk d)(w:World):Calls prog 37 #[.int .i64 d] w (Ret w (.tuple #[.int .i64 (d/8),.int .i64 0])):=by rw[<-ngj h];exact nbg d w
theorem nmi(h:¬DevOk d)(w:World):Calls prog 37 #[.int .i64 d] w (Ret w (.tuple #[.int .i64 0,.int .i64 371])):=by rw[<-nHi h];exact nbg d w
theorem ngn(l:Ls)(c:Cn)(b:Nat)(w:World)(hb1:w.heap[b]? =some (.cells (cnC c) 67 (0,0))):Calls prog 69 #[.agg (lsC l),ptr b 0] w (Ret w (.bool (decide (l.dev=c.dev)))):=by
 have hm1:¬Gh.no.X b:=λh=>h;refine enter (vs:=[_,_]) func69 rfl ntmps69 rfl ?_;refine B 3 ?_;intro b2 w2 hb2 ha2 ho2 hm2 hz2;replace ha2:=yb ha2;replace ho2:=yc ho2;refine B 14 ?_;refine retV results69 rfl A1 ?_;rfl
theorem nVl(ls:List Ls)(hl:ls.length<=1000000)(N:Nat)(a:Option Addr)(cp:Nat)(w:World)(hN:N<=w.heap.size)(hsl:SlAt lsC 5 N w a ls)(c:Cn)(b:Nat)(hb:w.heap[b]? =some (.cells (cnC c) 67 (0,0))):Calls prog 68 #[.slice a ls.length cp,.func (.func 69) #[] #[ptr b 0]] w (Ret w (.int .i64 (ixI c.dev ls))):=by
 refine enter (vs:=[_,_]) func68 rfl ntmps68 rfl ?_;refine B 14 ?_;refine CJ.loop (α:=Nat) (λj=>[(0,.slice a ls.length cp),(1,.func (.func 69) #[] #[ptr b 0]),(7,.int .i64 (ls.length:Int)),(8,.int .i64 (j:Int))]) (λj=>[]) (λj=>[w]) (λj=>Gh.no) (λj=>j<=ls.length/\∀x∈ls.take j,¬x.dev=c.dev) (λj=>ls.length-j) 0 ⟨a3o _,by simp⟩ zR rfl rfl zS ?_;rintro j ⟨hj,hjp⟩;refine B 6 ?_;refine zCD ?_ ?_
 ·intro hc1;refine B 11 ?_;obtain⟨b0,off0,cs0,t0,fr0,rfl,hbl0,hcs0,hel0⟩:=hsl.get zG;obtain⟨x,hx⟩:=nj ls j zG;refine B 5 ?_;refine rv rfl rfl rfl (RV.re (v':=.agg (lsC x)) (ldRA_r isAgg71 sizeOf71 rfl A0 hcs0 zO trivial (nk hel0 hx rfl)) (congrArg Value.agg (nl hel0 hx rfl))) ?_;refine nSb (f:=69) (cap:=[ptr b 0]) rfl call69 rfl rfl rfl (λW hS=>ngn x c b W (hS.old A0 hb zO trivial)) ?_;refine B 2 ?_;refine zCD ?_ ?_
  ·intro hc2;refine B 12 ?_;refine retV results68 rfl A0 ?_;exact congrArg (Value.int .i64) (nph (ixL_hit hx hjp hc2)).symm
  intro hc2;refine B 7 ?_;refine PJ.again (j+1) ⟨by omega,by intro z hz;rw[np hx]at hz;simp only[azo,agp]at hz;rcases hz with hz|rfl;exact hjp z hz;exact hc2⟩ zG zR rfl rfl zS
 intro hc1;refine B 11 ?_;refine retV results68 rfl A0 ?_;exact congrArg (Value.int .i64) (nGh (ixL_none (by rw[<-afp (l:=ls) (i:=j) zG];exact hjp))).symm
end Px
