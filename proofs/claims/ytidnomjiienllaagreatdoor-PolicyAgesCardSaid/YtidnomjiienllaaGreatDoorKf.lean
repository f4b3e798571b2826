/- Contracts of functions of the program, each walked once. No condition beyond those that each theorem states. -/
import Derived.Test.YtidnomjiienllaaGreatDoorKe
import Derived.Test.YtidnomjiienllaaGreatDoorProg
import Derived.Shelf.SlSortCmp.WholeK
import Derived.Deep.RegionWith
import Derived.Handy
import Derived.Lib.Bytealg
import Derived.Laws.Externs
import Derived.Test.YtidnomjiienllaaGreatDoorLa
set_option linter.unusedSimpArgs false
set_option linter.unusedVariables false
set_option linter.unusedSectionVars false
set_option maxRecDepth 20000
set_option maxHeartbeats 8000000
namespace Px
open Go Go.RowKit Go.Proofs Go.Proofs.Tryz
noncomputable def nxE (Z:Fx) (g:Gp) (c:Cm):Int:=
 if vldB g=true then(if ckI c=0 then(if fitB g c=true then(if nedE g c.author c.chs=0 then(if bxsB g c=true then(if wesB c=true then(if sigB Z g c=true then rnwE (renT g.ns c.chs) c.author else 222)else 220)else 220)else 221)else 220)else 220)else 1
noncomputable def nxR (Z:Fx) (g:Gp) (c:Cm):Gp:=if nxE Z g c=0 then nxG Z g c else zGp
variable {Z:Fx} {G:Gh} {g:Gp} {F H:Heap} {au:Int} {xs:List Int} {sp:List Value} {L:List World} {N N' b i j k:Nat} {f:Nat->Int} {W w':World}
theorem nedE_two{l:List Ch}(hv:vldB g=true):nedE g au l=0\/nedE g au l=221:=by
 unfold nedE;rw[if_pos hv];split<;>simp
theorem noe(hZ:FxOk Z)(G:Gv)(c:Cm)(hcg:CmGood c)(N:Nat)(w:World)(hN:N<=w.heap.size)(hG:GvAt N w G)(hC:CmAt N w c)(hg:Glb w):Calls prog 79 #[.agg (gpA G),.agg (cmA c)] w (nRc w (nxR Z G.g c) (nxE Z G.g c)):=by
 have key:∀e:Int,nxE Z G.g c=e->e≠0->Calls prog 79 #[.agg (gpA G),.agg (cmA c)] w (nRc w zGp e)->Calls prog 79 #[.agg (gpA G),.agg (cmA c)] w (nRc w (nxR Z G.g c) (nxE Z G.g c)):=by
  intro e he h0 h;have:nxR Z G.g c=zGp:=by unfold nxR;rw[he,if_neg h0]
  rw[this,he];exact h
 cases hv:vldB G.g with
 |false=>exact key 1 (by simp[nxE,hv]) zI (Next_inv hZ G c hcg N w hN hG hC hg hv)
 |true=>
  rcases ckI_two c with hck|hck
  ·cases hf:fitB G.g c with
   |false=>exact key 220 (by simp[nxE,hv,hck,hf]) zI (Next_fit hZ G c hcg N w hN hG hC hg hv hck hf)
   |true=>
    rcases nedE_two (au:=c.author) (l:=c.chs) hv with hne|hne
    ·cases hb:bxsB G.g c with
     |false=>exact key 220 (by simp[nxE,hv,hck,hf,hne,hb]) zI (Next_bx hZ G c hcg N w hN hG hC hg hv hck hf hne hb)
     |true=>
      cases hw:wesB c with
      |false=>exact key 220 (by simp[nxE,hv,hck,hf,hne,hb,hw]) zI (Next_we hZ G c hcg N w hN hG hC hg hv hck hf hne hb hw)
      |true=>
       cases hsg:sigB Z G.g c with
       |false=>exact key 222 (by simp[nxE,hv,hck,hf,hne,hb,hw,hsg]) zI (Next_sig hZ G c hcg N w hN hG hC hg hv hck hf hne hb hw hsg)
       |true=>
        have e1:nxE Z G.g c=rnwE (renT G.g.ns c.chs) c.author:=by simp[nxE,hv,hck,hf,hne,hb,hw,hsg]
        by_cases he:rnwE (renT G.g.ns c.chs) c.author=0
        ·have e2:nxE Z G.g c=0:=e1.trans he;have e3:nxR Z G.g c=nxG Z G.g c:=by unfold nxR;rw[e2,if_pos rfl]
         rw[e2,e3];exact Next_ok hZ G c hcg N w hN hG hC hg hv hck hf hne hb hw hsg 0 he rfl
        exact key _ e1 he (Next_ren hZ G c hcg N w hN hG hC hg hv hck hf hne hb hw hsg _ rfl he)
    exact key 221 (by simp[nxE,hv,hck,hf,hne]) zI (Next_ned hZ G c hcg N w hN hG hC hg hv hck hf hne)
  exact key 220 (by simp[nxE,hv,hck]) zI (Next_chk hZ G c hcg N w hN hG hC hg hv hck)
theorem nki{l:List Value}(h:l.all (λu=>u.oneCell')=true):∀u∈l,u.oneCell'=true:=λu hu=>aPo.1 h u hu
def gpE (x:Gv):List Value:=[.int .i64 x.g.folder,.int .i64 x.g.epoch,.int .u8 (x.g.last 0),.int .u8 (x.g.last 1),.int .u8 (x.g.last 2),.int .u8 (x.g.last 3),.int .u8 (x.g.last 4),.int .u8 (x.g.last 5),.int .u8 (x.g.last 6),.int .u8 (x.g.last 7),.int .u8 (x.g.last 8),.int .u8 (x.g.last 9),.int .u8 (x.g.last 10),.int .u8 (x.g.last 11),.int .u8 (x.g.last 12),.int .u8 (x.g.last 13),.int .u8 (x.g.last 14),.int .u8 (x.g.last 15),.int .u8 (x.g.last 16),.int .u8 (x.g.last 17),.int .u8 (x.g.last 18),.int .u8 (x.g.last 19),.int .u8 (x.g.last 20),.int .u8 (x.g.last 21),.int .u8 (x.g.last 22),.int .u8 (x.g.last 23),.int .u8 (x.g.last 24),.int .u8 (x.g.last 25),.int .u8 (x.g.last 26),.int .u8 (x.g.last 27),.int .u8 (x.g.last 28),.int .u8 (x.g.last 29),.int .u8 (x.g.last 30),.int .u8 (x.g.last 31),.slice x.ma x.g.ms.length x.mc,.slice x.na x.g.ns.length x.nc]
theorem nYi(x:Gv):(gpE x).length=36:=rfl
theorem gpE_one(x:Gv):∀u∈gpE x,u.oneCell'=true:=nki rfl
def cdE (d:Cd):List Value:=[.int .i64 d.at_,.int .i64 d.c.folder,.int .i64 d.c.epoch,.int .u8 (d.c.par 0),.int .u8 (d.c.par 1),.int .u8 (d.c.par 2),.int .u8 (d.c.par 3),.int .u8 (d.c.par 4),.int .u8 (d.c.par 5),.int .u8 (d.c.par 6),.int .u8 (d.c.par 7),.int .u8 (d.c.par 8),.int .u8 (d.c.par 9),.int .u8 (d.c.par 10),.int .u8 (d.c.par 11),.int .u8 (d.c.par 12),.int .u8 (d.c.par 13),.int .u8 (d.c.par 14),.int .u8 (d.c.par 15),.int .u8 (d.c.par 16),.int .u8 (d.c.par 17),.int .u8 (d.c.par 18),.int .u8 (d.c.par 19),.int .u8 (d.c.par 20),.int .u8 (d.c.par 21),.int .u8 (d.c.par 22),.int .u8 (d.c.par 23),.int .u8 (d.c.par 24),.int .u8 (d.c.par 25),.int .u8 (d.c.par 26),.int .u8 (d.c.par 27),.int .u8 (d.c.par 28),.int .u8 (d.c.par 29),.int .u8 (d.c.par 30),.int .u8 (d.c.par 31),.int .i64 d.c.author,.slice d.c.ca d.c.chs.length d.c.cc,.slice d.c.pa d.c.path.length d.c.pc,.slice d.c.ba d.c.bxs.length d.c.bc,.slice d.c.wa d.c.wes.length d.c.wc,.int .u8 (d.c.conf 0),.int .u8 (d.c.conf 1),.int .u8 (d.c.conf 2),.int .u8 (d.c.conf 3),.int .u8 (d.c.conf 4),.int .u8 (d.c.conf 5),.int .u8 (d.c.conf 6),.int .u8 (d.c.conf 7),.int .u8 (d.c.conf 8),.int .u8 (d.c.conf 9),.int .u8 (d.c.conf 10),.int .u8 (d.c.conf 11),.int .u8 (d.c.conf 12),.int .u8 (d.c.conf 13),.int .u8 (d.c.conf 14),.int .u8 (d.c.conf 15),.int .u8 (d.c.conf 16),.int .u8 (d.c.conf 17),.int .u8 (d.c.conf 18),.int .u8 (d.c.conf 19),.int .u8 (d.c.conf 20),.int .u8 (d.c.conf 21),.int .u8 (d.c.conf 22),.int .u8 (d.c.conf 23),.int .u8 (d.c.conf 24),.int .u8 (d.c.conf 25),.int .u8 (d.c.conf 26),.int .u8 (d.c.conf 27),.int .u8 (d.c.conf 28),.int .u8 (d.c.conf 29),.int .u8 (d.c.conf 30),.int .u8 (d.c.conf 31),.int .i64 d.c.sr,.int .i64 d.c.ss,.int .u8 (d.id 0),.int .u8 (d.id 1),.int .u8 (d.id 2),.int .u8 (d.id 3),.int .u8 (d.id 4),.int .u8 (d.id 5),.int .u8 (d.id 6),.int .u8 (d.id 7),.int .u8 (d.id 8),.int .u8 (d.id 9),.int .u8 (d.id 10),.int .u8 (d.id 11),.int .u8 (d.id 12),.int .u8 (d.id 13),.int .u8 (d.id 14),.int .u8 (d.id 15),.int .u8 (d.id 16),.int .u8 (d.id 17),.int .u8 (d.id 18),.int .u8 (d.id 19),.int .u8 (d.id 20),.int .u8 (d.id 21),.int .u8 (d.id 22),.int .u8 (d.id 23),.int .u8 (d.id 24),.int .u8 (d.id 25),.int .u8 (d.id 26),.int .u8 (d.id 27),.int .u8 (d.id 28),.int .u8 (d.id 29),.int .u8 (d.id 30),.int .u8 (d.id 31),.int .i64 d.since,.int .i64 d.x.g.folder,.int .i64 d.x.g.epoch,.int .u8 (d.x.g.last 0),.int .u8 (d.x.g.last 1),.int .u8 (d.x.g.last 2),.int .u8 (d.x.g.last 3),.int .u8 (d.x.g.last 4),.int .u8 (d.x.g.last 5),.int .u8 (d.x.g.last 6),.int .u8 (d.x.g.last 7),.int .u8 (d.x.g.last 8),.int .u8 (d.x.g.last 9),.int .u8 (d.x.g.last 10),.int .u8 (d.x.g.last 11),.int .u8 (d.x.g.last 12),.int .u8 (d.x.g.last 13),.int .u8 (d.x.g.last 14),.int .u8 (d.x.g.last 15),.int .u8 (d.x.g.last 16),.int .u8 (d.x.g.last 17),.int .u8 (d.x.g.last 18),.int .u8 (d.x.g.last 19),.int .u8 (d.x.g.last 20),.int .u8 (d.x.g.last 21),.int .u8 (d.x.g.last 22),.int .u8 (d.x.g.last 23),.int .u8 (d.x.g.last 24),.int .u8 (d.x.g.last 25),.int .u8 (d.x.g.last 26),.int .u8 (d.x.g.last 27),.int .u8 (d.x.g.last 28),.int .u8 (d.x.g.last 29),.int .u8 (d.x.g.last 30),.int .u8 (d.x.g.last 31),.slice d.x.ma d.x.g.ms.length d.x.mc,.slice d.x.na d.x.g.ns.length d.x.nc]
theorem njc(d:Cd):(cdE d).length=143:=by simp only[cdE,axo,a1o]
theorem nWi(d:Cd):∀u∈cdE d,u.oneCell'=true:=nki rfl
def encD (k:Dk):List Value:=k.1.map (Value.int .u8)
theorem nte(k:Dk):(encD k).length=32:=by simp[encD,k.2]
theorem npk(k:Dk):∀u∈encD k,u.oneCell'=true:=by
 intro u hu;obtain⟨x,_,rfl⟩:=ano.1 hu;rfl
def dk (f:Nat->Int):Dk:=⟨[f 0,f 1,f 2,f 3,f 4,f 5,f 6,f 7,f 8,f 9,f 10,f 11,f 12,f 13,f 14,f 15,f 16,f 17,f 18,f 19,f 20,f 21,f 22,f 23,f 24,f 25,f 26,f 27,f 28,f 29,f 30,f 31],rfl⟩
theorem encD_dk(f:Nat->Int):(encD (dk f)).toArray=dg f:=rfl
theorem eqD_dk(f g:Nat->Int):eqD f g=decide (dk f=dk g):=by
 have h:=nif (dk f).1 (dk g).1 (by rw[(dk f).2,(dk g).2]);have e:decide (dk f=dk g)=decide ((dk f).1=(dk g).1):=by simp only[Subtype.ext_iff]
 rw[e,<-h];rfl
theorem info_gp:prog.info? 62=some Tryz.t62:=by kernel_rfl
theorem info_cd:prog.info? 104=some Tryz.t104:=by kernel_rfl
theorem info_dg:prog.info? 43=some Tryz.t43:=by kernel_rfl
theorem rowTGp:RowT prog 41 62 36:=⟨underlying41,Tryz.t62,.agg #[.int .i64 0,.int .i64 0,.int .u8 0,.int .u8 0,.int .u8 0,.int .u8 0,.int .u8 0,.int .u8 0,.int .u8 0,.int .u8 0,.int .u8 0,.int .u8 0,.int .u8 0,.int .u8 0,.int .u8 0,.int .u8 0,.int .u8 0,.int .u8 0,.int .u8 0,.int .u8 0,.int .u8 0,.int .u8 0,.int .u8 0,.int .u8 0,.int .u8 0,.int .u8 0,.int .u8 0,.int .u8 0,.int .u8 0,.int .u8 0,.int .u8 0,.int .u8 0,.int .u8 0,.int .u8 0,.slice none 0 0,.slice none 0 0],info_gp,rfl,rfl,rfl,by decide⟩
theorem rowTCd:RowT prog 193 104 143:=⟨underlying193,Tryz.t104,.agg #[.int .i64 0,.int .i64 0,.int .i64 0,.int .u8 0,.int .u8 0,.int .u8 0,.int .u8 0,.int .u8 0,.int .u8 0,.int .u8 0,.int .u8 0,.int .u8 0,.int .u8 0,.int .u8 0,.int .u8 0,.int .u8 0,.int .u8 0,.int .u8 0,.int .u8 0,.int .u8 0,.int .u8 0,.int .u8 0,.int .u8 0,.int .u8 0,.int .u8 0,.int .u8 0,.int .u8 0,.int .u8 0,.int .u8 0,.int .u8 0,.int .u8 0,.int .u8 0,.int .u8 0,.int .u8 0,.int .u8 0,.int .i64 0,.slice none 0 0,.slice none 0 0,.slice none 0 0,.slice none 0 0,.int .u8 0,.int .u8 0,.int .u8 0,.int .u8 0,.int .u8 0,.int .u8 0,.int .u8 0,.int .u8 0,.int .u8 0,.int .u8 0,.int .u8 0,.int .u8 0,.int .u8 0,.int .u8 0,.int .u8 0,.int .u8 0,.int .u8 0,.int .u8 0,.int .u8 0,.int .u8 0,.int .u8 0,.int .u8 0,.int .u8 0,.int .u8 0,.int .u8 0,.int .u8 0,.int .u8 0,.int .u8 0,.int .u8 0,.int .u8 0,.int .u8 0,.int .u8 0,.int .i64 0,.int .i64 0,.int .u8 0,.int .u8 0,.int .u8 0,.int .u8 0,.int .u8 0,.int .u8 0,.int .u8 0,.int .u8 0,.int .u8 0,.int .u8 0,.int .u8 0,.int .u8 0,.int .u8 0,.int .u8 0,.int .u8 0,.int .u8 0,.int .u8 0,.int .u8 0,.int .u8 0,.int .u8 0,.int .u8 0,.int .u8 0,.int .u8 0,.int .u8 0,.int .u8 0,.int .u8 0,.int .u8 0,.int .u8 0,.int .u8 0,.int .u8 0,.int .u8 0,.int .u8 0,.int .i64 0,.int .i64 0,.int .i64 0,.int .u8 0,.int .u8 0,.int .u8 0,.int .u8 0,.int .u8 0,.int .u8 0,.int .u8 0,.int .u8 0,.int .u8 0,.int .u8 0,.int .u8 0,.int .u8 0,.int .u8 0,.int .u8 0,.int .u8 0,.int .u8 0,.int .u8 0,.int .u8 0,.int .u8 0,.int .u8 0,.int .u8 0,.int .u8 0,.int .u8 0,.int .u8 0,.int .u8 0,.int .u8 0,.int .u8 0,.int .u8 0,.int .u8 0,.int .u8 0,.int .u8 0,.int .u8 0,.slice none 0 0,.slice none 0 0],info_cd,rfl,rfl,rfl,by decide⟩
theorem rowTDg:RowT prog 35 43 32:=⟨underlying35,Tryz.t43,.agg #[.int .u8 0,.int .u8 0,.int .u8 0,.int .u8 0,.int .u8 0,.int .u8 0,.int .u8 0,.int .u8 0,.int .u8 0,.int .u8 0,.int .u8 0,.int .u8 0,.int .u8 0,.int .u8 0,.int .u8 0,.int .u8 0,.int .u8 0,.int .u8 0,.int .u8 0,.int .u8 0,.int .u8 0,.int .u8 0,.int .u8 0,.int .u8 0,.int .u8 0,.int .u8 0,.int .u8 0,.int .u8 0,.int .u8 0,.int .u8 0,.int .u8 0,.int .u8 0],info_dg,rfl,rfl,rfl,by decide⟩
theorem keyD:KeyF prog 43 dkv:=keyDk underlying43 underlying5 sizeOf5 isAgg5
theorem nik(p:Cd->Bool)(f:Nat)(cap:List Value)(hent:Ent prog f)(xs:List Cd)(hxl:xs.length<=1000000)(N:Nat)(a:Option Addr)(cp:Nat)(w:World)(hN:N<=w.heap.size)(hsl:SlAt cdA 143 N w a xs)(hp:∀(j:Nat) (x:Cd),xs[j]? =some x->∀W,Below w.heap.size w W->Calls prog f (.agg (cdA x)::cap).toArray W (Ret W (.bool (p x)))):Calls prog 133 #[.slice a xs.length cp,.func (.func f) #[] cap.toArray] w (RetX w (λi:Int=>.int .i64 i) (λi _=>IdxAt p xs i)):=by
 refine enter (vs:=[_,_]) func133 rfl ntmps133 rfl ?_;refine z9d ?_;rintro j ⟨hj,hto⟩;refine B 6 ?_;refine zCD ?_ ?_
 ·intro hc1;refine B 11 ?_;obtain⟨bo,oo,cs0,to,fr0,rfl,hbo,hcs,hel0⟩:=hsl.get zG;obtain⟨x,hx⟩:=nj xs j zG;refine B 5 ?_;refine rv rfl rfl rfl (RV.re (v':=.agg (cdA x)) (ldRA_r isAgg104 sizeOf104 rfl A0 hcs zO trivial (nk hel0 hx rfl)) (congrArg Value.agg (nl hel0 hx rfl))) ?_;refine zgf ?_;refine B 2 ?_;refine zCD ?_ ?_
  ·intro hc2;refine B 12 ?_;refine nE (j:Int) results133 rfl A0 rfl ?_;exact zqj
  exact zRi
 intro hc1;refine B 11 ?_;refine nE (-1:Int) results133 rfl A0 rfl ?_;exact zYj
theorem nOh(p:Cd->Bool)(f:Nat)(cap:List Value)(hent:Ent prog f)(xs:List Cd)(hxl:xs.length<=1000000)(N:Nat)(a:Option Addr)(cp:Nat)(w:World)(hN:N<=w.heap.size)(hsl:SlAt cdA 143 N w a xs)(hp:∀(j:Nat) (x:Cd),xs[j]? =some x->∀W,Below w.heap.size w W->Calls prog f (.agg (cdA x)::cap).toArray W (Ret W (.bool (p x)))):Calls prog 81 #[.slice a xs.length cp,.func (.func f) #[] cap.toArray] w (Ret w (.bool (xs.any p))):=by
 refine enter (vs:=[_,_]) func81 rfl ntmps81 rfl ?_;refine B 9 ?_;refine nq (α:=Int) (v:=λi:Int=>.int .i64 i) (Φ:=λ_ i _=>IdxAt p xs i) call133 rfl rfl rfl (λW hS=>nik p f cap hent xs hxl N a cp W (aco hN (hS.links w A0).size) (hsl.up (abo _) (hS.same A0 hN zN trivial)) (λj x hx W2 hB=>hp j x hx W2 (((hS.links w A0).below zNc).trans (hB.mono (hS.links w A0).size)))) ?_;intro Wi i wi hSi hBi hi;refine B 5 ?_;refine retV results81 rfl A1 ?_;exact congrArg Value.bool hi.any
def dixI (l:List Dk) (k:Dk):Int:=match l.findIdx? (λx=>decide (x=k))with|some i=>(i:Int)|none=> -1
theorem nLm{l:List Dk}{k x:Dk}(hto:NoTo (λy=>decide (y=k)) l j)(hx:l[j]? =some x)(h:decide (x=k)=true):(j:Int)=dixI l k:=by
 have e:l.findIdx? (λy=>decide (y=k))=some j:=by
  rw[ajp];have hl:=nz hx;obtain⟨_,hx2⟩:=ako.1 hx;refine⟨hl,by rw[hx2];exact h,λi hi=>?_⟩;have:=hto i l[i] hi (aNo _);simp[this]
 unfold dixI;rw[e]
theorem dix_no{l:List Dk}{k:Dk}(hto:NoTo (λy=>decide (y=k)) l j)(hj:¬j<l.length):(-1:Int)=dixI l k:=by
 have e:l.findIdx? (λy=>decide (y=k))=none:=by
  rw[akp];intro x hx;have:=List.any_eq_false.1 (nRe hto hj) x hx;simpa using this
 unfold dixI;rw[e]
def dkA (k:Dk):Array Value:=(encD k).toArray
theorem eqL_dk(f:Nat->Int)(k:Dk):eqL (dg f).toList (dkA k).toList=decide (k=dk f):=by
 have h:=nif (dk f).1 k.1 (by rw[(dk f).2,k.2]);have e:decide (k=dk f)=decide ((dk f).1=k.1):=by simp only[Subtype.ext_iff];exact decide_eq_decide.2 ⟨Eq.symm,Eq.symm⟩
 rw[e,<-h];rfl
theorem smT_dk(f:Nat->Int)(k:Dk):smT (repK 32 [.i]) (dg f).toList (dkA k).toList=true:=nlh 32 (dk f).1 k.1 (dk f).2 k.2
theorem Index_dg(xs:List Dk)(hxl:xs.length<=1000000)(N:Nat)(a:Option Addr)(cp:Nat)(w:World)(hN:N<=w.heap.size)(hsl:SlAt dkA 32 N w a xs)(f:Nat->Int):Calls prog 78 #[.slice a xs.length cp,.agg (dg f)] w (Ret w (.int .i64 (dixI xs (dk f)))):=by
 refine enter (vs:=[_,_]) func78 rfl ntmps78 rfl ?_;refine B 3 ?_;intro b3 w3 hb3 ha3 ho3 hm3 hz3;replace ha3:=yb ha3;replace ho3:=yc ho3;refine B 12 ?_;refine CJ.loop (α:=Nat) (λj=>[(0,.slice a xs.length cp),(3,ptr b3 0),(7,.int .i64 (xs.length:Int)),(8,.int .i64 (j:Int))]) (λj=>[]) (λj=>[w3,w]) (λj=>Gh.no) (λj=>j<=xs.length/\NoTo (λy=>decide (y=dk f)) xs j) (λj=>xs.length-j) 0 ⟨a3o _,λi x hi=>absurd hi zG⟩ zR rfl rfl zS ?_;rintro j ⟨hj,hto⟩;refine B 6 ?_;refine zCD ?_ ?_
 ·intro hc1;refine B 11 ?_;obtain⟨bo,oo,cs0,to,fr0,rfl,hbo,hcs,hel0⟩:=hsl.get zG;obtain⟨x,hx⟩:=nj xs j zG;refine CJ.less (E':=[(0,_),(3,_),(5,_),(7,_),(8,_),(9,_),(10,_)]) zR ?_;refine nw 5 [.det [] _,.det [] _,.det [] _,.det [1,2] _,.det [3] _] zM (xc (by exact λvals=>X.val rfl rfl (ldRAw_r isAgg43 sizeOf43 rfl A0 hb3 hm3 trivial rfl) (λ_ _=>rfl)) (xc zK (xc zK (xc (by exact λvals=>X.val rfl rfl (idxS_r underlying35 sizeOf43 rfl rfl zG zG) (λ_ _=>rfl)) (xc (by exact λvals=>X.val rfl rfl (RV.re (v':=.agg (dkA x)) (ldRA_r isAgg43 sizeOf43 rfl A1 hcs zO trivial (nk hel0 hx rfl)) (congrArg Value.agg (nl hel0 hx rfl))) (λ_ _=>rfl)) (xn)))))) zM zM zM (λvals=>?_);refine rv rfl rfl rfl (RV.re (v':=.bool (decide (x=dk f))) (eqlA_r nUb zI nob rfl rfl (smT_dk f x)) (congrArg Value.bool (eqL_dk f x))) ?_;refine B 2 ?_;refine zCD ?_ ?_
  ·intro hc2;refine B 12 ?_;exact zFj
  intro hc2;refine B 7 ?_;refine PJ.again (j+1) ⟨by omega,hto.next hx (decide_eq_false zZ)⟩ zG zR rfl rfl zS
 intro hc1;refine B 11 ?_;exact zFj
theorem winner_1(d x:Cd)(hxl:x.c.chs.length<=1000)(N:Nat)(b:Nat)(w:World)(hN:N<=w.heap.size)(hsl:SlAt chA 5 N w x.c.ca x.c.chs)(hb1:w.heap[b]? =some (.cells (cdA d) 104 (0,0))):Calls prog 82 #[.agg (cdA x),ptr b 0] w (Ret w (.bool (decide (x.c.author≠d.c.author)&&x.c.chs.any (rmvP d.c.author)))):=by
 have hm1:¬Gh.no.X b:=λh=>h;have hl1:=(ago.1 hb1).1;refine enter (vs:=[_,_]) func82 rfl ntmps82 rfl ?_;refine B 3 ?_;intro b2 w2 hb2 ha2 ho2 hm2 hz2;replace ha2:=yb ha2;replace ho2:=yc ho2;refine B 7 ?_;refine rv rfl rfl rfl (RV.re (v':=.int .i64 x.c.author) (ldR_r isAgg3 rfl A0 hb2 hm2 trivial rfl) (rfl)) ?_;refine B 2 ?_;refine zah ?_;refine B 2 ?_;refine nf (t:=11) rfl (λhc1=>?_) (λhc1=>?_)
 ·replace hc1:=ya hc1;refine rv rfl rfl rfl (RV.re (v':=.agg (cdA x)) (ldRAw_r isAgg104 sizeOf104 rfl A0 hb2 hm2 trivial rfl) (rfl)) ?_;refine B 2 ?_;refine zah ?_;refine call call83 rfl rfl rfl (λW hS=>n5m x hxl N W (aco hN (hS.links w A1).size) (hsl.up (abo _) (hS.same A1 hN zN zH)) d.c.author) ?_;refine B 5 ?_;refine retV results82 rfl A1 ?_;exact congrArg Value.bool zwb
 replace hc1:=ya hc1;refine B 10 ?_;refine retV results82 rfl A1 ?_;exact congrArg Value.bool zwb
noncomputable def plT (Z:Fx) (cs:List Cm):Nat->List (Dk×Int)
 |0=>[]
 |j+1=>match cs[j]? with
  |none=>plT Z cs j
  |some c=>if dk (cmID Z c)∈(plT Z cs j).map (·.1)then plT Z cs j else plT Z cs j++[(dk (cmID Z c),(j:Int))]
theorem nSg{cs:List Cm}{c:Cm}(hc:cs[j]? =some c)(h:dk (cmID Z c)∈(plT Z cs j).map (·.1)):plT Z cs (j+1)=plT Z cs j:=by simp only[plT,hc,if_pos h]
theorem nUg{cs:List Cm}{c:Cm}(hc:cs[j]? =some c)(h:¬dk (cmID Z c)∈(plT Z cs j).map (·.1)):plT Z cs (j+1)=plT Z cs j++[(dk (cmID Z c),(j:Int))]:=by simp only[plT,hc,if_neg h]
theorem n3d(Z:Fx)(cs:List Cm):∀j,(plT Z cs j).length<=j
 |0=>abo _
 |j+1=>by
  have:=n3d Z cs j;unfold plT;split
  ·omega
  split
  ·omega
  rw[aHo,aJo];omega
theorem nGj(Z:Fx)(cs:List Cm):∀j,((plT Z cs j).map (·.1)).Nodup
 |0=>List.nodup_nil
 |j+1=>by
  have:=nGj Z cs j;unfold plT;split
  ·exact this
  split
  ·exact this
  rename_i h;rw[ayo,List.nodup_append];refine⟨this,by simp,?_⟩;intro a ha b hb e;simp only[afo,a0o,agp]at hb;subst hb;subst e;exact h ha
theorem nbi(Z:Fx)(cs:List Cm):∀(j:Nat) (p:Dk×Int),p∈plT Z cs j->∃(i:Nat) (c:Cm),p.2=(i:Int)/\i<j/\cs[i]? =some c/\p.1=dk (cmID Z c)
 |0,p,h=>by simp[plT]at h
 |j+1,p,h=>by
  have ih:=nbi Z cs j p;unfold plT at h;split at h
  ·obtain⟨i,c,h1,h2,h3⟩:=ih h;exact⟨i,c,h1,by omega,h3⟩
  rename_i c hc;split at h
  ·obtain⟨i,c,h1,h2,h3⟩:=ih h;exact⟨i,c,h1,by omega,h3⟩
  rcases azo.1 h with h|h
  ·obtain⟨i,c,h1,h2,h3⟩:=ih h;exact⟨i,c,h1,by omega,h3⟩
  simp only[agp]at h;subst h;exact⟨j,c,rfl,by omega,hc,rfl⟩
def kvM (l:List (Dk×Int)):List (Dk×Bool):=l.map λp=>(p.1,true)
theorem nCf(l:List (Dk×Int)):(kvM l).map (·.1)=l.map (·.1):=by simp[kvM]
theorem nem(l:List (Dk×Int))(k:Dk):(gget (kvM l) k).getD false=decide (k∈l.map (·.1)):=by
 by_cases h:k∈l.map (·.1)
 ·cases e:gget (kvM l) k with
  |none=>rw[n7f,nCf]at e;exact absurd h e
  |some v=>
   obtain⟨q,hq,rfl⟩:=ayp.1 e;have h2:=n5c hq;obtain⟨p,_,hp⟩:=ano.1 (ajo h2);have:q.2=true:=(Prod.mk.inj hp).2.symm;simp[this,h]
 have e:gget (kvM l) k=none:=by rw[n7f,nCf];exact h
 simp[e,h]
theorem nym{l:List (Dk×Int)}{k:Dk}(h:k∈l.map (·.1)):gput (kvM l) k true=kvM l:=by
 unfold gput;cases hi:gidx k (kvM l) 0 with
 |none=>have:=nGd.1 hi;rw[nCf]at this;exact absurd h this
 |some q=>
  obtain⟨i,v⟩:=q;have h2:=n5c hi;obtain⟨p,_,hp⟩:=ano.1 (ajo h2);have hv:v=true:=(Prod.mk.inj hp).2.symm;subst hv;apply aDo;intro n;rw[azp];split
  ·rename_i e;subst e;rw[if_pos (ako.1 h2).1,h2]
  rfl
theorem nDm{l:List (Dk×Int)}{k:Dk}{j:Int}(h:¬k∈l.map (·.1)):gput (kvM l) k true=kvM (l++[(k,j)]):=by
 unfold gput;cases hi:gidx k (kvM l) 0 with
 |none=>simp[kvM]
 |some q=>
  have h2:=n5c (l:=kvM l) (i:=q.1) (v:=q.2) hi;have:k∈(kvM l).map (·.1):=ano.2 ⟨_,ajo h2,rfl⟩;rw[nCf]at this;exact absurd this h
theorem n6e(o:Option Bool):(o.map Value.bool).getD (.bool false)= .bool (o.getD false):=by cases o<;>rfl
theorem nQj{l:List (Dk×Int)}{p:Dk×Int}:(l++[p]).map (·.1)=l.map (·.1)++[p.1]:=by simp
theorem nlj{l:List (Dk×Int)}{p:Dk×Int}:(l++[p]).map (·.2)=l.map (·.2)++[p.2]:=by simp
structure Pv where
 ia:Option Addr
 ic:Nat
 ta:Option Addr
 tc:Nat
noncomputable def pvA (Z:Fx) (cs:List Cm) (la:Option Addr) (lc:Nat) (p:Pv):Array Value:=#[.slice la cs.length lc,.slice p.ia ((plT Z cs cs.length).map (·.1)).length p.ic,.slice p.ta ((plT Z cs cs.length).map (·.2)).length p.tc]
structure PvAt (Z:Fx) (cs:List Cm) (N:Nat) (w:World) (p:Pv):Prop where
 ids:SlAt dkA 32 N w p.ia ((plT Z cs cs.length).map (·.1))
 at_:SlAt (λx=>(encZ x).toArray) 1 N w p.ta ((plT Z cs cs.length).map (·.2))
theorem PvAt.up{cs:List Cm}{w:World}{p:Pv}(h:PvAt Z cs N w p)(hN:N<=N')(hw:∀k,k<N->w'.heap[k]? =w.heap[k]?):PvAt Z cs N' w' p:=⟨h.ids.up hN hw,h.at_.up hN hw⟩
theorem newPool(hZ:FxOk Z)(cs:List Cm)(hcs:cs.length<=1000)(hcg:∀c∈cs,CmGood c)(N:Nat)(la:Option Addr)(lc:Nat)(w:World)(hN:N<=w.heap.size)(hsl:SlAt cmA 73 N w la cs)(hC:∀c∈cs,CmAt N w c)(hg:Glb w):Calls prog 23 #[.slice la cs.length lc] w (RetX w (λp:Pv=>.agg (pvA Z cs la lc p)) (λp w1=>PvAt Z cs w1.heap.size w1 p/\(∀q,p.ia=some q->w.heap.size<=q.block)/\∀q,p.ta=some q->w.heap.size<=q.block)):=by
 have hg4:=hg.lt;refine enter (vs:=[_]) func23 rfl ntmps23 rfl ?_;refine B 2 ?_;refine allW zeroValue95 rfl rfl ?_;intro b2 ha2 ho2;replace ha2:=yb ha2;replace ho2:=yc ho2;refine B 6 ?_;refine stW (i:=0) rfl sizeOf24 rfl rfl rfl rfl (apo rfl) rfl ?_;refine B 4 ?_;refine mkMK dkv Value.bool rfl rfl ?_;intro b3 ha3 ho3;replace ha3:=yb ha3;try simp only[Off,and_true,ne_eq]at ho3
 refine B 12 ?_;refine CJ.loop (α:=((Rw×Rw)×Mq)×Nat) (λp=>[(2,ptr b2 0),(3,.map (some b3)),(10,.slice la cs.length lc),(11,.int .i64 (cs.length:Int)),(12,.int .i64 (p.2:Int))]) (λp=>[(b3,p.1.2.obj dkv Value.bool (kvM (plT Z cs p.2))),(b2,.cells #[.slice la cs.length lc,p.1.1.1.val ((plT Z cs p.2).map (·.1)).length,p.1.1.2.val ((plT Z cs p.2).map (·.2)).length] 95 (0,0))]++(p.1.1.1.hp encD 43 ((plT Z cs p.2).map (·.1))++(p.1.1.2.hp encZ 3 ((plT Z cs p.2).map (·.2))++[]))) (λp=>[w]) (λp=>Gh.no) (λp=>p.2<=cs.length/\p.1.1.1.Fr Gh.no [w]/\p.1.1.1.Fit 32 ((plT Z cs p.2).map (·.1))/\p.1.1.2.Fr Gh.no [w]/\p.1.1.2.Fit 1 ((plT Z cs p.2).map (·.2))/\p.1.2.Ok (kvM (plT Z cs p.2))) (λp=>cs.length-p.2) (((.nil,.nil),Mq.mk [] 0),0) ⟨a3o _,True.intro,rfl,True.intro,rfl,Mq.nil⟩ zR rfl rfl zS ?_;rintro⟨⟨⟨r1,r2⟩,m⟩,j⟩ ⟨hj,hrf1,hrfit1,hrf2,hrfit2,hm⟩;dsimp only at hj hrf1 hrfit1 hrf2 hrfit2 hm ⊢;have hrge1:r1.ge w.heap.size:=Rw.ge_of hrf1 A0;have hrge2:r2.ge w.heap.size:=Rw.ge_of hrf2 A0;refine B 6 ?_;refine zCD ?_ ?_
 ·intro hc1;refine B 5 ?_;obtain⟨bo,oo,cs0,to,fr0,hpe,hbo,hcs,hel0⟩:=hsl.get zG;obtain⟨c,hc⟩:=nj cs j zG;have hcm:=ajo hc;have hpl:=n3d Z cs j;refine B 2 ?_;refine rv rfl rfl rfl (idxS_r underlying24 sizeOf102 (congrArg (λq=>some (Value.slice q cs.length lc)) hpe) rfl zG zG) ?_;refine rv rfl rfl rfl (RV.re (v':=.agg (cmA c)) (ldRA_r isAgg102 sizeOf102 rfl A0 hcs zO (by simp only[Off,ne,aEo,abp,asp,adp,and_true];(repeat' apply And.intro);all_goals first|omega|exact True.intro|exact Rw.off_ge hrge1 zG|exact Rw.off_ge hrge2 zG) (nk hel0 hc rfl)) (congrArg Value.agg (nl hel0 hc rfl))) ?_;refine allW zeroValue102 rfl rfl ?_;intro b5 ha5 ho5;replace ha5:=yb ha5;replace ho5:=yc ho5;refine B 1 ?_;refine stWw (i:=0) rfl sizeOf102 rfl rfl rfl rfl rfl rfl ?_;refine B 5 ?_;refine call call47 rfl rfl rfl (λW hS=>nAf hZ c (hcg c hcm) N W (aco hN (hS.links w A0).size) ((hC c hcm).up (abo _) (hS.same A0 hN zN zpd)) (hg.old hS A0 zN zpd)) ?_;refine z8e ?_;intro b6 ha6 ho6;replace ha6:=yb ha6;replace ho6:=yc ho6;refine zHe ?_;refine B 4 ?_;by_cases hol:(dk (cmID Z c))∈((plT Z cs j).map (·.1))
  ·refine B 3 ?_;refine rv rfl rfl rfl (RV.re (v':=.bool true) (gget1_r (m:=m) (k:=(dk (cmID Z c))) underlying48 keyD zeroValue4 hm (Lies.own (i:=2) rfl) rfl rfl) ((n6e _).trans (congrArg Value.bool ((nem _ _).trans (decide_eq_true hol))))) ?_;refine B 9 ?_;refine nNh (i:=2) (k:=(dk (cmID Z c))) (v:=true) rfl hm underlying48 keyD rfl rfl rfl rfl ?_;intro m2 hm2;refine zGh ?_;refine PJ.again (((r1,r2),m2),j+1) ⟨by dsimp only;omega,hrf1,by rw[nSg hc hol];exact hrfit1,hrf2,by rw[nSg hc hol];exact hrfit2,by rw[nSg hc hol];rw[nym hol]at hm2;exact hm2⟩ z2 zR (by rw[nSg hc hol,nym hol];rfl) rfl zS
  refine B 3 ?_;refine rv rfl rfl rfl (RV.re (v':=.bool false) (gget1_r (m:=m) (k:=(dk (cmID Z c))) underlying48 keyD zeroValue4 hm (Lies.own (i:=2) rfl) rfl rfl) ((n6e _).trans (congrArg Value.bool ((nem _ _).trans (decide_eq_false hol))))) ?_;refine B 4 ?_;refine CJ.less (E':=[(2,_),(3,_),(4,_),(5,_),(6,_),(10,_),(11,_),(12,_),(13,_),(14,_),(15,_),(16,_),(17,_),(18,_),(19,_),(20,_),(21,_),(22,_)]) zR ?_;refine nRg 11 [3,4,8,9] [([],some _),([0],some _),([],some _),([2],none),([1,3],none),([],some _),([5],some _),([],some _),([7],none),([6,8],none),([],some _)] [[],[0],[],[0,1,2]] (λcv L' H'=>match cv with| [none,none,none,none]=>L'=[w]/\H'=[(b6,.cells (dg (cmID Z c)) 43 (0,0)),(b5,.cells (cmA c) 102 (0,0)),(b3,m.obj dkv Value.bool (kvM (plT Z cs j))),(b2,.cells #[.slice la cs.length lc,r1.val ((plT Z cs j).map (·.1)).length,r2.val ((plT Z cs j).map (·.2)).length] 95 (0,0))]++(r1.hp encD 43 ((plT Z cs j).map (·.1))++(r2.hp encZ 3 ((plT Z cs j).map (·.2))++[]))| [none,none,some v8,none]=>∃(b31:Nat),v8= .slice (some ⟨b31,0,none⟩) 1 1/\L'=[w]/\H'=[(b31,.cells #[.int .i64 (j:Int)] 3 (0,0)),(b6,.cells (dg (cmID Z c)) 43 (0,0)),(b5,.cells (cmA c) 102 (0,0)),(b3,m.obj dkv Value.bool (kvM (plT Z cs j))),(b2,.cells #[.slice la cs.length lc,r1.val ((plT Z cs j).map (·.1)).length,r2.val ((plT Z cs j).map (·.2)).length] 95 (0,0))]++(r1.hp encD 43 ((plT Z cs j).map (·.1))++(r2.hp encZ 3 ((plT Z cs j).map (·.2))++[]))/\Above [w] b31| [some v3,none,none,none]=>∃(b26:Nat),v3= .slice (some ⟨b26,0,none⟩) 1 1/\L'=[w]/\H'=[(b26,.cells (dg (cmID Z c)) 43 (0,0)),(b6,.cells (dg (cmID Z c)) 43 (0,0)),(b5,.cells (cmA c) 102 (0,0)),(b3,m.obj dkv Value.bool (kvM (plT Z cs j))),(b2,.cells #[.slice la cs.length lc,r1.val ((plT Z cs j).map (·.1)).length,r2.val ((plT Z cs j).map (·.2)).length] 95 (0,0))]++(r1.hp encD 43 ((plT Z cs j).map (·.1))++(r2.hp encZ 3 ((plT Z cs j).map (·.2))++[]))/\Above [w] b26| [some v3,none,some v8,none]=>∃(b26:Nat) (b31:Nat),v3= .slice (some ⟨b26,0,none⟩) 1 1/\v8= .slice (some ⟨b31,0,none⟩) 1 1/\L'=[w]/\H'=[(b31,.cells #[.int .i64 (j:Int)] 3 (0,0)),(b26,.cells (dg (cmID Z c)) 43 (0,0)),(b6,.cells (dg (cmID Z c)) 43 (0,0)),(b5,.cells (cmA c) 102 (0,0)),(b3,m.obj dkv Value.bool (kvM (plT Z cs j))),(b2,.cells #[.slice la cs.length lc,r1.val ((plT Z cs j).map (·.1)).length,r2.val ((plT Z cs j).map (·.2)).length] 95 (0,0))]++(r1.hp encD 43 ((plT Z cs j).map (·.1))++(r2.hp encZ 3 ((plT Z cs j).map (·.2))++[]))/\Above [w] b26/\Above [w] b31| [some v3,some v4,none,none]=>∃(b26:Nat) (b27:Nat) (cp27:Nat) (sp27:List Value),v3= .slice (some ⟨b26,0,none⟩) 1 1/\v4= .slice (some ⟨b27,0,none⟩) (((plT Z cs j).map (·.1))++[(dk (cmID Z c))]).length cp27/\L'=[w]/\H'=[(b26,.cells (dg (cmID Z c)) 43 (0,0)),(b6,.cells (dg (cmID Z c)) 43 (0,0)),(b5,.cells (cmA c) 102 (0,0)),(b3,m.obj dkv Value.bool (kvM (plT Z cs j))),(b2,.cells #[.slice la cs.length lc,r1.val ((plT Z cs j).map (·.1)).length,r2.val ((plT Z cs j).map (·.2)).length] 95 (0,0))]++((Rw.row b27 cp27 sp27).hp encD 43 (((plT Z cs j).map (·.1))++[(dk (cmID Z c))])++(r2.hp encZ 3 ((plT Z cs j).map (·.2))++[]))/\Above [w] b26/\(r1.isAt b27\/Above [w] b27)/\(Rw.row b27 cp27 sp27).Fit 32 (((plT Z cs j).map (·.1))++[(dk (cmID Z c))])| [some v3,some v4,some v8,none]=>∃(b26:Nat) (b27:Nat) (cp27:Nat) (sp27:List Value) (b31:Nat),v3= .slice (some ⟨b26,0,none⟩) 1 1/\v4= .slice (some ⟨b27,0,none⟩) (((plT Z cs j).map (·.1))++[(dk (cmID Z c))]).length cp27/\v8= .slice (some ⟨b31,0,none⟩) 1 1/\L'=[w]/\H'=[(b31,.cells #[.int .i64 (j:Int)] 3 (0,0)),(b26,.cells (dg (cmID Z c)) 43 (0,0)),(b6,.cells (dg (cmID Z c)) 43 (0,0)),(b5,.cells (cmA c) 102 (0,0)),(b3,m.obj dkv Value.bool (kvM (plT Z cs j))),(b2,.cells #[.slice la cs.length lc,r1.val ((plT Z cs j).map (·.1)).length,r2.val ((plT Z cs j).map (·.2)).length] 95 (0,0))]++((Rw.row b27 cp27 sp27).hp encD 43 (((plT Z cs j).map (·.1))++[(dk (cmID Z c))])++(r2.hp encZ 3 ((plT Z cs j).map (·.2))++[]))/\Above [w] b26/\(r1.isAt b27\/Above [w] b27)/\(Rw.row b27 cp27 sp27).Fit 32 (((plT Z cs j).map (·.1))++[(dk (cmID Z c))])/\Above [w] b31| [some v3,some v4,some v8,some v9]=>∃(b26:Nat) (b27:Nat) (cp27:Nat) (sp27:List Value) (b31:Nat) (b32:Nat) (cp32:Nat) (sp32:List Value),v3= .slice (some ⟨b26,0,none⟩) 1 1/\v4= .slice (some ⟨b27,0,none⟩) (((plT Z cs j).map (·.1))++[(dk (cmID Z c))]).length cp27/\v8= .slice (some ⟨b31,0,none⟩) 1 1/\v9= .slice (some ⟨b32,0,none⟩) (((plT Z cs j).map (·.2))++[(j:Int)]).length cp32/\L'=[w]/\H'=[(b31,.cells #[.int .i64 (j:Int)] 3 (0,0)),(b26,.cells (dg (cmID Z c)) 43 (0,0)),(b6,.cells (dg (cmID Z c)) 43 (0,0)),(b5,.cells (cmA c) 102 (0,0)),(b3,m.obj dkv Value.bool (kvM (plT Z cs j))),(b2,.cells #[.slice la cs.length lc,r1.val ((plT Z cs j).map (·.1)).length,r2.val ((plT Z cs j).map (·.2)).length] 95 (0,0))]++((Rw.row b27 cp27 sp27).hp encD 43 (((plT Z cs j).map (·.1))++[(dk (cmID Z c))])++((Rw.row b32 cp32 sp32).hp encZ 3 (((plT Z cs j).map (·.2))++[(j:Int)])++[]))/\Above [w] b26/\(r1.isAt b27\/Above [w] b27)/\(Rw.row b27 cp27 sp27).Fit 32 (((plT Z cs j).map (·.1))++[(dk (cmID Z c))])/\Above [w] b31/\(r2.isAt b32\/Above [w] b32)/\(Rw.row b32 cp32 sp32).Fit 1 (((plT Z cs j).map (·.2))++[(j:Int)])|_=>False) zM ⟨rfl,rfl⟩ zM zM zM zM zM zM rfl (qc (by exact λcv L' H' _ _ hP=>X.val rfl rfl (fld_r underlying95 rfl sizeOf35 rfl) R2) (qc zct (qc zct (qk (qk (qc (by exact λcv L' H' _ _ hP=>X.val rfl rfl (fld_r underlying95 rfl sizeOf32 rfl) R2) (qc zct (qc z0b (qk (qk (qc (by exact λcv L' H' _ _ hP=>X.val rfl rfl (fld_r underlying95 rfl sizeOf35 rfl) R2) (qn)))))))))))) ?_ ?_
  ·refine nc rfl rfl rfl rfl ?_ ?_
   ·intro cv L' H' hl hr hP F Q' hk;obtain⟨x3,x4,x8,x9,rfl⟩:=len4 hl;rcases x3 with _|v3<;>rcases x4 with _|v4<;>rcases x8 with _|v8<;>rcases x9 with _|v9<;>try exact False.elim hP
    ·obtain⟨rfl,rfl⟩:=hP;refine bslW underlying35 sizeOf43 zeroValue43 rfl rfl rfl rfl rfl rfl rfl ?_;intro b26 ha ho;exact OJ.done (hk _ _ _ ⟨b26,rfl,rfl,rfl,ha⟩)
    ·obtain⟨b31,rfl,rfl,rfl,ha31⟩:=hP;refine bslW underlying35 sizeOf43 zeroValue43 rfl rfl rfl rfl rfl rfl rfl ?_;intro b26 ha ho;refine zLg ?_;exact OJ.done (hk _ _ _ ⟨b26,b31,rfl,rfl,rfl,rfl,ha,ha31⟩)
    ·exact z1h
    ·exact z1h
    ·exact z1h
    ·exact z1h
    exact z1h
   refine nc rfl rfl rfl rfl ?_ ?_
   ·intro cv L' H' hl hr hP F Q' hk;obtain⟨x3,x4,x8,x9,rfl⟩:=len4 hl;rcases x3 with _|v3<;>rcases x4 with _|v4<;>rcases x8 with _|v8<;>rcases x9 with _|v9<;>try exact False.elim hP
    ·exact z1h
    ·exact z1h
    ·obtain⟨b26,rfl,rfl,rfl,ha26⟩:=hP;refine apT (r:=r1) (xs:=((plT Z cs j).map (·.1))) (zs:=[(dk (cmID Z c))]) (enc:=encD) (m:=32) (H0:=[(b26,.cells (dg (cmID Z c)) 43 (0,0)),(b6,.cells (dg (cmID Z c)) 43 (0,0)),(b5,.cells (cmA c) 102 (0,0)),(b3,m.obj dkv Value.bool (kvM (plT Z cs j))),(b2,.cells #[.slice la cs.length lc,r1.val ((plT Z cs j).map (·.1)).length,r2.val ((plT Z cs j).map (·.2)).length] 95 (0,0))]) (H1:=r2.hp encZ 3 ((plT Z cs j).map (·.2))++[]) rfl rowTDg nte rfl rfl rfl rfl (SrcT.one (z:=(dk (cmID Z c))) nte npk underlying35 (Lies.own (i:=0) rfl)) hrfit1 hrf1 zS z7b ?_;intro b27 cp27 sp27 hf27 hfit27;exact OJ.done (hk _ _ _ ⟨b26,b27,cp27,sp27,rfl,rfl,rfl,rfl,ha26,hf27,hfit27⟩)
    ·obtain⟨b26,b31,rfl,rfl,rfl,rfl,ha26,ha31⟩:=hP;refine apT (r:=r1) (xs:=((plT Z cs j).map (·.1))) (zs:=[(dk (cmID Z c))]) (enc:=encD) (m:=32) (H0:=[(b31,.cells #[.int .i64 (j:Int)] 3 (0,0)),(b26,.cells (dg (cmID Z c)) 43 (0,0)),(b6,.cells (dg (cmID Z c)) 43 (0,0)),(b5,.cells (cmA c) 102 (0,0)),(b3,m.obj dkv Value.bool (kvM (plT Z cs j))),(b2,.cells #[.slice la cs.length lc,r1.val ((plT Z cs j).map (·.1)).length,r2.val ((plT Z cs j).map (·.2)).length] 95 (0,0))]) (H1:=r2.hp encZ 3 ((plT Z cs j).map (·.2))++[]) rfl rowTDg nte rfl rfl rfl rfl (SrcT.one (z:=(dk (cmID Z c))) nte npk underlying35 (Lies.own (i:=1) rfl)) hrfit1 hrf1 zS z7b ?_;intro b27 cp27 sp27 hf27 hfit27;exact OJ.done (hk _ _ _ ⟨b26,b27,cp27,sp27,b31,rfl,rfl,rfl,rfl,rfl,ha26,hf27,hfit27,ha31⟩)
    ·exact z1h
    ·exact z1h
    exact z1h
   refine nc rfl rfl rfl rfl ?_ ?_
   ·intro cv L' H' hl hr hP F Q' hk;obtain⟨x3,x4,x8,x9,rfl⟩:=len4 hl;rcases x3 with _|v3<;>rcases x4 with _|v4<;>rcases x8 with _|v8<;>rcases x9 with _|v9<;>try exact False.elim hP
    ·obtain⟨rfl,rfl⟩:=hP;refine zJe ?_;intro b31 ha ho;exact OJ.done (hk _ _ _ ⟨b31,rfl,rfl,rfl,ha⟩)
    ·exact z1h
    ·obtain⟨b26,rfl,rfl,rfl,ha26⟩:=hP;refine zJe ?_;intro b31 ha ho;exact OJ.done (hk _ _ _ ⟨b26,b31,rfl,rfl,rfl,rfl,ha26,ha⟩)
    ·exact z1h
    ·obtain⟨b26,b27,cp27,sp27,rfl,rfl,rfl,rfl,ha26,hf27,hfit27⟩:=hP;refine zJe ?_;intro b31 ha ho;exact OJ.done (hk _ _ _ ⟨b26,b27,cp27,sp27,b31,rfl,rfl,rfl,rfl,rfl,ha26,hf27,hfit27,ha⟩)
    ·exact z1h
    exact z1h
   refine nc rfl rfl rfl rfl ?_ ?_
   ·intro cv L' H' hl hr hP F Q' hk;obtain⟨x3,x4,x8,x9,rfl⟩:=len4 hl;rcases x3 with _|v3<;>rcases x4 with _|v4<;>rcases x8 with _|v8<;>rcases x9 with _|v9<;>try exact False.elim hP
    ·exact z1h
    ·exact z1h
    ·exact z1h
    ·exact z1h
    ·exact z1h
    ·obtain⟨b26,b27,cp27,sp27,b31,rfl,rfl,rfl,rfl,rfl,ha26,hf27,hfit27,ha31⟩:=hP;refine apT (r:=r2) (xs:=((plT Z cs j).map (·.2))) (zs:=[(j:Int)]) (enc:=encZ) (m:=1) (H0:=[(b31,.cells #[.int .i64 (j:Int)] 3 (0,0)),(b26,.cells (dg (cmID Z c)) 43 (0,0)),(b6,.cells (dg (cmID Z c)) 43 (0,0)),(b5,.cells (cmA c) 102 (0,0)),(b3,m.obj dkv Value.bool (kvM (plT Z cs j))),(b2,.cells #[.slice la cs.length lc,r1.val ((plT Z cs j).map (·.1)).length,r2.val ((plT Z cs j).map (·.2)).length] 95 (0,0))]++(Rw.row b27 cp27 sp27).hp encD 43 (((plT Z cs j).map (·.1))++[(dk (cmID Z c))])) (H1:=[]) rfl nDg nB rfl rfl rfl rfl (SrcT.one (z:=(j:Int)) nB nkd underlying32 (Lies.own (i:=0) rfl)) hrfit2 hrf2 zS z7b ?_;intro b32 cp32 sp32 hf32 hfit32;exact OJ.done (hk _ _ _ ⟨b26,b27,cp27,sp27,b31,b32,cp32,sp32,rfl,rfl,rfl,rfl,rfl,rfl,ha26,hf27,hfit27,ha31,hf32,hfit32⟩)
    exact z1h
   exact nn
  intro cv L' H' hl hr hP;obtain⟨x3,x4,x8,x9,rfl⟩:=len4 hl;rcases x3 with _|v3<;>rcases x4 with _|v4<;>rcases x8 with _|v8<;>rcases x9 with _|v9
  ·exact z1h
  ·exact z1h
  ·exact z1h
  ·exact z1h
  ·exact z1h
  ·exact z1h
  ·exact z1h
  ·exact z1h
  ·exact z1h
  ·exact z1h
  ·exact z1h
  ·exact z1h
  ·exact z1h
  ·exact z1h
  ·exact z1h
  obtain⟨b26,b27,cp27,sp27,b31,b32,cp32,sp32,rfl,rfl,rfl,rfl,rfl,rfl,ha26,hf27,hfit27,ha31,hf32,hfit32⟩:=hP;simp only[Above]at ha26 ha31;refine stW (i:=5) rfl sizeOf35 rfl rfl rfl rfl (apo rfl) rfl ?_;refine B 1 ?_;refine stW (i:=5) rfl sizeOf32 rfl rfl rfl rfl (apo rfl) rfl ?_;refine B 4 ?_;refine rv rfl rfl rfl (ldWAw_r (i:=2) rfl isAgg43 sizeOf43 rfl rfl) ?_;refine nNh (i:=4) (k:=(dk (cmID Z c))) (v:=true) rfl hm underlying48 keyD rfl rfl rfl rfl ?_;intro m2 hm2;refine zGh ?_;refine zWd ?_;refine zWd ?_;refine PJ.again (((Rw.row b27 cp27 sp27,Rw.row b32 cp32 sp32),m2),j+1) ⟨by dsimp only;omega,hf27.elim (λh=>Rw.Fr_at hrf1 h) (λh=>.inr h),by rw[nUg hc hol,nQj];exact hfit27,hf32.elim (λh=>Rw.Fr_at hrf2 h) (λh=>.inr h),by rw[nUg hc hol,nlj];exact hfit32,by rw[nUg hc hol,<-nDm hol];exact hm2⟩ z2 zR (by rw[nUg hc hol,nQj,nlj,<-nDm hol];rfl) rfl zS
 intro hc1;refine B 6 ?_;have hpl:=n3d Z cs j;have hje:j=cs.length:=by omega
 subst hje;refine B 2 ?_;refine stWw (i:=1) rfl sizeOf95 rfl rfl rfl rfl rfl (by cases r1<;>cases r2<;>rfl) ?_;refine B 3 ?_;refine retG (.inl rfl) results23 (RS.wA (i:=1) rfl isAgg95 sizeOf95 rfl (apo rfl) RS.n) λW hS=>?_;have hat1:r1.At encD 43 ((plT Z cs cs.length).map (·.1)) W:=by
  cases r1 with
  |nil=>trivial
  |row b cap sp=>exact hS.own (b,_) zqc
 have hat2:r2.At encZ 3 ((plT Z cs cs.length).map (·.2)) W:=by
  cases r2 with
  |nil=>trivial
  |row b cap sp=>exact hS.own (b,_) zqc
 obtain⟨a1,c1,he1,hs1⟩:=Rw.sl nte hrfit1 hat1 (abo W.heap.size);obtain⟨a2,c2,he2,hs2⟩:=Rw.sl nB hrfit2 hat2 (abo W.heap.size);refine⟨⟨a1,c1,a2,c2⟩,?_,?_,⟨hs1,hs2⟩,Rw.val_new hrge1 he1,Rw.val_new hrge2 he2⟩
 ·show Ending.returned (.agg #[.slice la cs.length lc,r1.val _,r2.val _])=_;rw[he1,he2];rfl
 exact(hS.links w A0).below (λk hk hx=>by rcases hx with hx|hx;(exact hx);simp only[adp,a9o,aEo,abp,asp,ayo,afo,a0o,azo,aeo,aCo,or_false]at hx;rcases hx with hx|hx|hx|hx;(omega);(omega);(have:=Rw.mem_ge hrge1 hx;omega);(have:=Rw.mem_ge hrge2 hx;omega))
structure CO {α:Type} (cf:α->α->Int):Prop where
 anti:∀x y,cf x y= -cf y x
 trans:∀x y z,cf x y<=0->cf y z<=0->cf x z<=0
theorem CO.swo{α:Type}{cf:α->α->Int}(h:CO cf):Go.Sort.SWO (Go.Proofs.ltOf cf):=by
 refine⟨λx=>?_,λx y z h1 h2=>?_,λx y z h1 h2=>?_⟩<;>simp only[Go.Proofs.ltOf,decide_eq_true_eq,decide_eq_false_iff_not]at*
 ·have:=h.anti x x;omega
 ·have a1:=h.anti x z;have a2:=h.anti y z;have a3:=h.anti z y;have a4:=h.anti x y
  have t1:=h.trans x y z zG zG;by_cases e:cf x z=0
  ·have t2:=h.trans z x y (by have:=h.anti z x;omega) zG;have:=h.anti y z;omega
  omega
 have a1:=h.anti x y;have a2:=h.anti y z;have a3:=h.anti x z
 have:=h.trans z y x zG zG;omega
def lexC {α:Type} (f g:α->α->Int) (x y:α):Int:=if f x y=0 then g x y else f x y
theorem CO.lt{α:Type}{cf:α->α->Int}(h:CO cf){x y z:α}(h1:cf x y<=0)(h2:cf y z<=0)(h3:cf x y≠0\/cf y z≠0):cf x z≠0:=by
 intro e;have a1:=h.anti x z;have a2:=h.anti y z;have a3:=h.anti x y
 rcases h3 with h3|h3
 ·have:=h.trans y z x h2 zG;omega
 have:=h.trans z x y zG h1;omega
theorem CO.lex{α:Type}{f g:α->α->Int}(hf:CO f)(hg:CO g):CO (lexC f g):=by
 refine⟨λx y=>?_,λx y z h1 h2=>?_⟩
 ·have a:=hf.anti x y;have b:=hg.anti x y
  unfold lexC;by_cases e:f x y=0
  ·rw[if_pos e,if_pos zG];exact b
  rw[if_neg e,if_neg zG];exact a
 have a:=hf.lt (x:=x) (y:=y) (z:=z);have t:=hf.trans x y z;have u:=hg.trans x y z
 unfold lexC at *;by_cases e1:f x y=0<;>by_cases e2:f y z=0<;>simp only[e1,e2,if_true,if_false]at h1 h2
 ·have z0:f x z=0:=by
   have t1:=t zG zG;have t2:=hf.trans z y x (by have:=hf.anti z y;omega) (by have:=hf.anti y x;omega);have:=hf.anti x z;omega
  rw[if_pos z0];exact u h1 h2
 ·rw[if_neg (a zG zG (.inr e2))];exact t zG zG
 ·rw[if_neg (a zG zG (.inl e1))];exact t zG zG
 rw[if_neg (a zG zG (.inl e1))];exact t zG zG
theorem CO.key{α β:Type}{cf:β->β->Int}(h:CO cf)(k:α->β):CO λx y=>cf (k x) (k y):=⟨λx y=>h.anti _ _,λx y z=>h.trans _ _ _⟩
theorem CO.int:CO cmpI:=by
 refine⟨λx y=>?_,λx y z h1 h2=>?_⟩
 ·unfold cmpI;(repeat' split)<;>omega
 unfold cmpI at *;(repeat' split)<;>simp_all<;>omega
theorem cb_eq:∀(a b:List UInt8),Go.Lib.compareBytes a b=0->a=b
 | [],[],_=>rfl
 | [],_::_,h=>by simp[Go.Lib.compareBytes]at h
 |_::_,[],h=>by simp[Go.Lib.compareBytes]at h
 |x::a,y::b,h=>by
  unfold Go.Lib.compareBytes at h;by_cases h1:x<y
  ·simp[h1]at h
  by_cases h2:y<x
  ·simp[h1,h2]at h
  simp only[h1,h2,if_false]at h;have e:x=y:=UInt8.le_antisymm (UInt8.not_lt.1 h2) (UInt8.not_lt.1 h1);rw[e,cb_eq a b h]
theorem nyi(x y:UInt8):x<y\/x=y\/y<x:=by
 by_cases h1:x<y
 ·exact .inl h1
 by_cases h2:y<x
 ·exact .inr (.inr h2)
 exact .inr (.inl (UInt8.le_antisymm (UInt8.not_lt.1 h2) (UInt8.not_lt.1 h1)))
theorem nIh{x y:UInt8}(a b:List UInt8)(h:x<y):Go.Lib.compareBytes (x::a) (y::b)= -1:=by unfold Go.Lib.compareBytes;rw[if_pos h]
theorem nui{x y:UInt8}(a b:List UInt8)(h:y<x):Go.Lib.compareBytes (x::a) (y::b)=1:=by unfold Go.Lib.compareBytes;rw[if_neg (λk=>UInt8.lt_irrefl x (UInt8.lt_trans k h)),if_pos h]
theorem nKi(x:UInt8)(a b:List UInt8):Go.Lib.compareBytes (x::a) (x::b)=Go.Lib.compareBytes a b:=by conv=>lhs;unfold Go.Lib.compareBytes;rw[if_neg (UInt8.lt_irrefl x),if_neg (UInt8.lt_irrefl x)]
theorem nqm:∀a b:List UInt8,Go.Lib.compareBytes a b= -Go.Lib.compareBytes b a
 | [],[]=>rfl
 | [],_::_=>rfl
 |_::_,[]=>rfl
 |x::a,y::b=>by
  rcases nyi x y with h|rfl|h
  ·rw[nIh _ _ h,nui _ _ h]
  ·rw[nKi,nKi];exact nqm a b
  rw[nui _ _ h,nIh _ _ h];rfl
theorem n8k:∀a b c:List UInt8,Go.Lib.compareBytes a b<=0->Go.Lib.compareBytes b c<=0->Go.Lib.compareBytes a c<=0
 | [],_,[],_,_=>by decide
 | [],_,_::_,_,_=>by show(-1:Int)<=0;decide
 |_::_,[],_,h1,_=>absurd (show(1:Int)<=0 from h1) zI
 |_::_,_::_,[],_,h2=>absurd (show(1:Int)<=0 from h2) zI
 |x::a,y::b,z::c,h1,h2=>by
  rcases nyi x y with h|rfl|h
  ·rcases nyi y z with k|rfl|k
   ·rw[nIh _ _ (UInt8.lt_trans h k)];decide
   ·rw[nIh _ _ h];decide
   rw[nui _ _ k]at h2;exact absurd h2 zI
  ·rcases nyi x z with k|rfl|k
   ·rw[nIh _ _ k];decide
   ·rw[nKi]at h1 h2 ⊢;exact n8k a b c h1 h2
   rw[nui _ _ k]at h2;exact absurd h2 zI
  rw[nui _ _ h]at h1;exact absurd h1 zI
theorem CO.bytes:CO Go.Lib.compareBytes:=⟨nqm,n8k⟩
def ky3 (x y:Int×Int×List UInt8):Int:=lexC (λx y=>cmpI x.1 y.1) (lexC (λx y=>cmpI x.2.1 y.2.1) (λx y=>Go.Lib.compareBytes x.2.2 y.2.2)) x y
theorem CO.ky3:CO ky3:=(CO.int.key (λx:Int×Int×List UInt8=>x.1)).lex ((CO.int.key (λx:Int×Int×List UInt8=>x.2.1)).lex (CO.bytes.key (λx:Int×Int×List UInt8=>x.2.2)))
theorem ky3_eq{x y:Int×Int×List UInt8}(h:ky3 x y=0):x.2.2=y.2.2:=by
 unfold Px.ky3 lexC at h;split at h
 ·split at h
  ·exact cb_eq _ _ h
  rename_i h1;exact absurd h h1
 rename_i h1;exact absurd h h1
theorem nrj{le:Nat->Nat->Bool}:∀{l l':List Nat},(∀a∈l,∀b∈l,le a b=true->le b a=true->a=b)->l.Pairwise (λa b=>le a b=true)->l'.Pairwise (λa b=>le a b=true)->l.Perm l'->l=l'
 | [],l',_,_,_,hp=>(List.nil_perm.1 hp).symm▸rfl
 |a::l,[],_,_,_,hp=>absurd hp.length_eq zS
 |a::l,b::l',ha,h1,h2,hp=>by
  have hab:a=b:=by
   have m1:a∈b::l':=hp.mem_iff.1 A0;have m2:b∈a::l:=hp.mem_iff.2 A0;rcases aeo.1 m1 with e|m1
   ·exact e
   rcases aeo.1 m2 with e|m2'
   ·exact e.symm
   exact ha a A0 b m2 ((List.pairwise_cons.1 h1).1 b m2') ((List.pairwise_cons.1 h2).1 a m1)
  subst hab;have hp2:=hp.cons_inv;rw[nrj (λx hx y hy=>ha x (.tail _ hx) y (.tail _ hy)) (List.pairwise_cons.1 h1).2 (List.pairwise_cons.1 h2).2 hp2]
section
open Go.Proofs Go.Shelf Go.Lib Go.Sort
theorem rk1_x(x y:Cd)(W:World):Calls prog 185 #[.agg (cdE x).toArray,.agg (cdE y).toArray] W λe w'=>e= .returned (.int .i64 (cmpI x.since y.since))/\∃q os',w'=grow (W.drewN q) os':=by
 have hcon:=λW'=>cmp_x x.since y.since W';generalize cmpI x.since y.since=r at hcon ⊢;unfold cdE
 go_enter func185,ntmps185
 go_wp2_with (go_at_call 129;refine(hcon _).mono ?_;rintro e w' ⟨rfl,rfl⟩)
 go_ret
 exact zfj
theorem rk2_x(x y:Cd)(W:World):Calls prog 186 #[.agg (cdE x).toArray,.agg (cdE y).toArray] W λe w'=>e= .returned (.int .i64 (cmpI x.c.author y.c.author))/\∃q os',w'=grow (W.drewN q) os':=by
 have hcon:=λW'=>cmp_x x.c.author y.c.author W';generalize cmpI x.c.author y.c.author=r at hcon ⊢;unfold cdE
 go_enter func186,ntmps186
 go_wp2_with (go_at_call 129;refine(hcon _).mono ?_;rintro e w' ⟨rfl,rfl⟩)
 go_ret
 exact zfj
end
theorem n0f{P:Program}{W:World}{b:Nat}:∀(zs:List Int) (off:Nat) (acc:List UInt8),(∀(i:Nat) (h:i<zs.length),W.cell? ⟨b,off+i,none⟩=some (.int .u8 zs[i]))->(Extern.Bytes.loadBytes ⟨b,off,none⟩ zs.length ⟨acc.toArray⟩).run P W= .ok ⟨(acc++zs.map λz=>z.toNat.toUInt8).toArray⟩ W
 | [],off,acc,_=>by simp[Extern.Bytes.loadBytes]
 |z::zs,off,acc,h=>by
  have h0:W.cell? ⟨b,off,none⟩=some (.int .u8 z):=h 0 zS;have ih:=n0f (P:=P) (W:=W) (b:=b) zs (off+1) (acc++[z.toNat.toUInt8]) (λi hi=>by
   have:=h (i+1) zMc;rw[show off+1+i=off+(i+1) by omega];simpa using this)
  have e:(ByteArray.mk acc.toArray).push z.toNat.toUInt8=⟨(acc++[z.toNat.toUInt8]).toArray⟩:=by simp[ByteArray.push]
  have ha:(⟨b,off,none⟩:Addr).add 1=⟨b,off+1,none⟩:=rfl;simp only[axo,Extern.Bytes.loadBytes,Sem.run_bind];rw[show(load ⟨b,off,none⟩:Sem Value).run P W= .ok (.int .u8 z) W by simp[load,Sem.run,h0]];simp only[Result.andThen,e,ha];rw[ih];simp
section
open Go.Lib Go.Sort
theorem run_cmpB{P:Program}{b1 o1 c1 b2 o2 c2:Nat}{ys:List Int}(h1:∀(i:Nat) (h:i<xs.length),W.cell? ⟨b1,o1+i,none⟩=some (.int .u8 xs[i]))(h2:∀(i:Nat) (h:i<ys.length),W.cell? ⟨b2,o2+i,none⟩=some (.int .u8 ys[i])):(Extern.BytealgCompare.compare #[.slice (some ⟨b1,o1,none⟩) xs.length c1,.slice (some ⟨b2,o2,none⟩) ys.length c2]).run P W= .ok (.int .i64 (compareBytes (xs.map λz=>z.toNat.toUInt8) (ys.map λz=>z.toNat.toUInt8))) W:=by
 change Sem.run P (do pure (goInt (Extern.BytealgCompare.cmp (<-Extern.Bytes.bytesOf (.slice (some ⟨b1,o1,none⟩) xs.length c1)) (<-Extern.Bytes.bytesOf (.slice (some ⟨b2,o2,none⟩) ys.length c2))))) W=_;have e1:=n0f (P:=P) (W:=W) xs o1 [] h1;have e2:=n0f (P:=P) (W:=W) ys o2 [] h2;simp only[Extern.Bytes.bytesOf,Sem.run_bind,Sem.run_pure,Result.andThen];rw[show ByteArray.empty=⟨(#[]:Array UInt8)⟩from rfl,e1];simp only[abp];rw[e2];simp only[abp];rw[cmp_eq];rfl
theorem n0i{b1 o1 c1 b2 o2 c2:Nat}{ys:List Int}(h1:∀(i:Nat) (h:i<xs.length),W.cell? ⟨b1,o1+i,none⟩=some (.int .u8 xs[i]))(h2:∀(i:Nat) (h:i<ys.length),W.cell? ⟨b2,o2+i,none⟩=some (.int .u8 ys[i])):Calls prog 188 #[.slice (some ⟨b1,o1,none⟩) xs.length c1,.slice (some ⟨b2,o2,none⟩) ys.length c2] W λe w'=>e= .returned (.int .i64 (compareBytes (xs.map λz=>z.toNat.toUInt8) (ys.map λz=>z.toNat.toUInt8)))/\w'=W:=by
 have hr:=run_cmpB (P:=prog) (c1:=c1) (c2:=c2) h1 h2;clear h1 h2
 go_enter func188,ntmps188
 go_wp2
 rw[run_callFunc_extern func242 zM zM zM (e:=Extern.BytealgCompare.compare) zM,hr];simp only[Result.andThen];rw[Oper.upon_value]
 go_wp2
 go_ret
 exact⟨rfl,rfl⟩
theorem cellA{o2:Obj}{X:Array Value}{t:Nat}{v:Value}(q:Nat)(h:X[k]? =some v):(((W.alloc (.cells X t)).alloc o2).drewN q).cell? ⟨W.heap.size,k,none⟩=some v:=by
 rw[alloc_eq_grow,alloc_eq_grow,grow_grow];have:(W.heap++(#[.cells X t]++#[o2]))[W.heap.size]? =some (.cells X t):=by rw[Array.getElem?_append_right (abo _)];simp
 simp only[World.cell?,World.drewN,grow,this];exact h
theorem cellB{o1:Obj}{Y:Array Value}{t:Nat}{v:Value}(q:Nat)(h:Y[k]? =some v):(((W.alloc o1).alloc (.cells Y t)).drewN q).cell? ⟨W.heap.size+1,k,none⟩=some v:=by
 rw[alloc_eq_grow,alloc_eq_grow,grow_grow];have:(W.heap++(#[o1]++#[.cells Y t]))[W.heap.size+1]? =some (.cells Y t):=by rw[Array.getElem?_append_right zG];simp
 simp only[World.cell?,World.drewN,grow,this];exact h
theorem rk3_g(X Y:Array Value)(xs ys:List Int)(hx:xs.length=32)(hy:ys.length=32)(hX:∀(i:Nat) (h:i<xs.length),X[74+i]? =some (.int .u8 xs[i]))(hY:∀(i:Nat) (h:i<ys.length),Y[74+i]? =some (.int .u8 ys[i]))(W:World):Calls prog 187 #[.agg X,.agg Y] W λe w'=>e= .returned (.int .i64 (compareBytes (xs.map λz=>z.toNat.toUInt8) (ys.map λz=>z.toNat.toUInt8)))/\∃q os',w'=grow (W.drewN q) os':=by
 have hcon:∀q,Calls prog 188 #[.slice (some ⟨W.heap.size,74,none⟩) 32 32,.slice (some ⟨W.heap.size+1,74,none⟩) 32 32] (((W.alloc (.cells X 104)).alloc (.cells Y 104)).drewN q) λe w'=>e= .returned (.int .i64 (compareBytes (xs.map λz=>z.toNat.toUInt8) (ys.map λz=>z.toNat.toUInt8)))/\w'=((W.alloc (.cells X 104)).alloc (.cells Y 104)).drewN q:=by
  intro q;have:=n0i (W:=((W.alloc (.cells X 104)).alloc (.cells Y 104)).drewN q) (b1:=W.heap.size) (o1:=74) (c1:=32) (b2:=W.heap.size+1) (o2:=74) (c2:=32) (xs:=xs) (ys:=ys) (λi h=>cellA _ (by simp[hX i h])) (λi h=>cellB _ (by simp[hY i h]));rw[hx,hy]at this;exact this
 generalize compareBytes (xs.map λz=>z.toNat.toUInt8) (ys.map λz=>z.toNat.toUInt8)=c at hcon ⊢;clear hX hY
 go_enter func187,ntmps187
 go_wp2
 go_region_with (go_at_call 188;refine(hcon _).mono ?_;rintro e w' ⟨rfl,rfl⟩)
 go_wp2
 go_ret
 exact⟨rfl,_,_,by rw[alloc_eq_grow,alloc_eq_grow,grow_grow];rfl⟩
end
theorem dk_map(f:Nat->Int):((dk f).1.map λz=>z.toNat.toUInt8)=dgU f:=rfl
theorem rk3_x(x y:Cd)(W:World):Calls prog 187 #[.agg (cdA x),.agg (cdA y)] W λe w'=>e= .returned (.int .i64 (Go.Lib.compareBytes (dgU x.id) (dgU y.id)))/\Gz W w':=by
 rw[<-dk_map,<-dk_map];have key:∀(z:Cd) (i:Nat) (h:i<(dk z.id).1.length),(cdA z)[74+i]? =some (.int .u8 (dk z.id).1[i]):=by
  intro z i h;have h2:i<32:=by rw[(dk z.id).2]at h;exact h
  have e1:((dk z.id).1.map (Value.int .u8))[i]? =some (.int .u8 ((dk z.id).1[i]'h)):=by rw[aSo,aNo h];rfl
  have e2:(dg z.id)[i]? =((dk z.id).1.map (Value.int .u8))[i]? :=by rw[<-encD_dk,aUo];rfl
  exact(cut_at (k:=74) (n:=32) (r:=dg z.id) rfl i h2).trans (e2.trans e1)
 exact rk3_g (cdA x) (cdA y) (dk x.id).1 (dk y.id).1 (dk x.id).2 (dk y.id).2 (key x) (key y) W
def rkF:Nat->Nat
 |0=>185
 |1=>186
 |_=>187
def RkAt (w:World) (b:Nat):Prop:=∃b',w.heap[b]? =some (.cells #[.slice (some ⟨b',0,none⟩) 3 3] 383 (0,0))/\w.heap[b']? =some (.cells #[.func (.func 185) #[] #[],.func (.func 186) #[] #[],.func (.func 187) #[] #[]] 258 (0,0))
theorem rkF_at(j:Nat)(h:j<3):(#[Value.func (.func 185) #[] #[],.func (.func 186) #[] #[],.func (.func 187) #[] #[]]:Array Value)[0+((j:Int)).toNat*1]? =some (.func (.func (rkF j)) #[] #[]):=by
 match j,h with
 |0,_=>rfl
 |1,_=>rfl
 |2,_=>rfl
theorem rkF_ent(j:Nat)(h:j<3):Ent prog (rkF j):=by
 match j,h with
 |0,_=>exact call185
 |1,_=>exact call186
 |2,_=>exact call187
def rkC (x y:Cd):Nat->Int
 |0=>cmpI x.since y.since
 |1=>cmpI x.c.author y.c.author
 |_=>Go.Lib.compareBytes (dgU x.id) (dgU y.id)
theorem rkF_x(x y:Cd)(j:Nat)(h:j<3)(W:World):Calls prog (rkF j) #[.agg (cdA x),.agg (cdA y)] W λe w'=>e= .returned (.int .i64 (rkC x y j))/\Gz W w':=by
 match j,h with
 |0,_=>exact rk1_x x y W
 |1,_=>exact rk2_x x y W
 |2,_=>exact rk3_x x y W
def kyD (d:Cd):Int×Int×List UInt8:=(d.since,d.c.author,dgU d.id)
def rkI (x y:Cd):Int:=if cmpI x.since y.since=0 then(if cmpI x.c.author y.c.author=0 then Go.Lib.compareBytes (dgU x.id) (dgU y.id)else cmpI x.c.author y.c.author)else cmpI x.since y.since
theorem rkI_at{x y:Cd}(h:∀i,i<j->rkC x y i=0)(hj:j<3)(hn:¬rkC x y j=0):rkC x y j=rkI x y:=by
 have h0:=h 0;have h1:=h 1
 unfold rkI;simp only[rkC]at h0 h1
 match j,hj with
 |0,_=>simp only[rkC]at hn ⊢;rw[if_neg hn]
 |1,_=>simp only[rkC]at hn ⊢;rw[if_pos (h0 zG),if_neg hn]
 |2,_=>simp only[rkC]at hn ⊢;rw[if_pos (h0 zG),if_pos (h1 zG)]
theorem rkI_end{x y:Cd}(h:∀i,i<3->rkC x y i=0):0=rkI x y:=by
 have h0:=h 0 zG;have h1:=h 1 zG;have h2:=h 2 zG
 simp only[rkC]at h0 h1 h2;unfold rkI;rw[if_pos h0,if_pos h1,h2]
theorem by_x(x y:Cd)(b:Nat)(w:World)(hr:RkAt w b):Calls prog 241 #[.agg (cdA x),.agg (cdA y),ptr b 0] w λe w'=>e= .returned (.int .i64 (rkI x y))/\Gz w w':=by
 obtain⟨b2,hb,hb2⟩:=hr;refine enterX (vs:=[_,_,_]) func241 rfl ntmps241 rfl ?_;refine zPf ?_;refine boxX rfl rfl rfl (λW0 h0=>?_);refine boxX rfl rfl rfl (λW1 h1=>?_);obtain⟨W2,h2⟩:∃W2,W2=W1.alloc (.cells (cdA y) 104 (0,0)):=⟨_,rfl⟩;have hz1:Gz w W1:=by rw[h1,h0];exact Gz.alloc _ _
 have hz2:Gz w W2:=by rw[h2];exact hz1.trans (Gz.alloc _ _)
 have hby:W2.heap[W1.heap.size]? =some (.cells (cdA y) 104 (0,0)):=by rw[h2];exact heap_alloc_new _ _
 have hbx:W2.heap[W0.heap.size]? =some (.cells (cdA x) 104 (0,0)):=by
  have e:W1.heap[W0.heap.size]? =some (.cells (cdA x) 104 (0,0)):=by rw[h1];exact heap_alloc_new _ _
  rw[h2,(nNc W1 _).block _ (ago.1 e).1];exact e
 have hst:∀{W:World},Gz W2 W->St Gh.no [W2,w] [] W:=λ{W} h=>st_of (by
  intro v hv;simp only[aeo,aCo,or_false]at hv;rcases hv with rfl|rfl
  ·exact h.below
  exact(hz2.trans h).below)
 refine rvX (L:=[W2,w]) (λW e=>by rw[e];have:=hst (Gz.refl W2);rw[h2]at this ⊢;exact this) rfl rfl rfl (asg_r rfl) ?_;refine zCf ?_;refine CX.seq ?_;refine zPf ?_;refine rvX (L:=[W2,w]) (λW e=>by rw[e];have:=hst (Gz.refl W2);rw[h2]at this ⊢;exact this) rfl rfl rfl (ldR_r (v:=.slice (some ⟨b2,0,none⟩) 3 3) isAgg383 rfl A1 hb zO trivial rfl) ?_;refine rvX (L:=[W2,w]) (λW e=>by rw[e];have:=hst (Gz.refl W2);rw[h2]at this ⊢;exact this) rfl rfl rfl (lenS_r underlying383 rfl) ?_;refine rvX (L:=[W2,w]) (λW e=>by rw[e];have:=hst (Gz.refl W2);rw[h2]at this ⊢;exact this) rfl rfl rfl (mv_r rfl) ?_;refine zCf ?_;refine CX.block ?_;refine CX.loop (α:=Nat×World) (λp=>[(2,ptr b 0),(3,ptr W0.heap.size 0),(4,ptr W1.heap.size 0),(9,.slice (some ⟨b2,0,none⟩) 3 3),(10,.int .i64 3),(11,.int .i64 (p.1:Int))]) (λp=>(· =p.2)) (λp=>p.1<=3/\(∀i,i<p.1->rkC x y i=0)/\Gz W2 p.2) (λp=>3-p.1) (0,W2) ⟨by omega,λi h=>absurd h zG,Gz.refl _⟩ zR (λW e=>e.trans h2.symm) ?_;rintro⟨j,W⟩ ⟨hj,hz,hg⟩;dsimp only at hj hz hg ⊢;have hT:∀W',W'=W->St Gh.no [W2,w] [] W':=λW' e=>by rw[e];exact hst hg
 refine zPf ?_;by_cases hc1:j<3
 ·refine rvX hT rfl rfl rfl (RV.re (v':=.bool true) (lss_r rfl rfl) (congrArg Value.bool (decide_eq_true zG))) ?_;refine zCf ?_;refine CX.seq ?_;refine CX.condT rfl ?_;refine CX.skip ?_;refine PX.next ?_;refine CX.seq ?_;refine CX.block ?_;refine zPf ?_;refine rvX hT rfl rfl rfl (idxS_r underlying383 sizeOf258 rfl rfl zG zG) ?_;refine rvX hT rfl rfl rfl (ldR_r (v:=.func (.func (rkF j)) #[] #[]) isAgg258 rfl A1 hb2 zO trivial (rkF_at j hc1)) ?_;refine rvX hT rfl rfl rfl (asg_r rfl) ?_;refine zCf ?_;refine zPf ?_;refine rvX hT rfl rfl rfl (mv_r rfl) ?_;refine rvX hT rfl rfl rfl (ldRAw_r isAgg104 sizeOf104 rfl A0 hbx zO trivial rfl) ?_;refine rvX hT rfl rfl rfl (ldRAw_r isAgg104 sizeOf104 rfl A0 hby zO trivial rfl) ?_;refine callX' (first:=[]) (cap:=[]) (v:=.int .i64 (rkC x y j)) (T':=Gz W) rfl (rkF_ent j hc1) rfl rfl rfl (λW' e=>by rw[e];exact rkF_x x y j hc1 W) ?_;refine OX.fix (λW3 hg3=>?_);have hg4:=hg.trans hg3;have hT3:∀W',W'=W3->St Gh.no [W2,w] [] W':=λW' e=>by rw[e];exact hst hg4
  refine rvX hT3 rfl rfl rfl (asg_r rfl) ?_;refine zCf ?_;refine zPf ?_;refine rvX hT3 rfl rfl rfl (mv_r rfl) ?_;by_cases hc2:rkC x y j=0
  ·refine rvX hT3 rfl rfl rfl (RV.re (v':=.bool false) (neqI_r rfl rfl) (congrArg Value.bool (by simp[hc2]))) ?_;refine zCf ?_;refine CX.condF rfl ?_;refine CX.skip ?_;refine PX.norBlock ?_;refine PX.next ?_;refine CX.region ?_;refine rvX hT3 rfl rfl rfl (addI_r rfl rfl zG zG) ?_;refine rvX hT3 rfl rfl rfl (mv_r rfl) ?_;refine OX.done ?_;exact PX.again (j+1,W3) ⟨by dsimp only;omega,λi hi=>by dsimp only at hi;by_cases e:i=j;(rw[e];exact hc2);exact hz i zG,hg4⟩ z2 zR (λW' e=>e)
  refine rvX hT3 rfl rfl rfl (RV.re (v':=.bool true) (neqI_r rfl rfl) (congrArg Value.bool (by simp[hc2]))) ?_;refine zCf ?_;refine CX.condT rfl ?_;refine zPf ?_;refine rvX hT3 rfl rfl rfl (mv_r rfl) ?_;refine rvX hT3 rfl rfl rfl (asg_r rfl) ?_;refine zCf ?_;refine CX.ret ?_;refine PX.retBlock ?_;refine PX.retThen ?_;refine PX.retThen ?_;refine PX.retBlock ?_;refine PX.retThen ?_;exact retX' (.inl rfl) results241 rfl (λW' e=>⟨congrArg (λn=>Ending.returned (.int .i64 n)) (rkI_at hz hc1 hc2),by rw[e];exact hz2.trans hg4⟩)
 refine rvX hT rfl rfl rfl (RV.re (v':=.bool false) (lss_r rfl rfl) (congrArg Value.bool (decide_eq_false zG))) ?_;refine zCf ?_;refine CX.seq ?_;refine CX.condF rfl ?_;refine CX.exit ?_;refine PX.exThen ?_;refine PX.exThen ?_;refine PX.exHit ?_;refine PX.next ?_;refine zPf ?_;refine rvX hT rfl rfl rfl (asg_r rfl) ?_;refine zCf ?_;refine CX.ret ?_;exact retX' (.inl rfl) results241 rfl (λW' e=>⟨congrArg (λn=>Ending.returned (.int .i64 n)) (rkI_end (λi hi=>hz i zG)),by rw[e];exact hz2.trans hg⟩)
theorem CO.rkI:CO rkI:=CO.ky3.key kyD
def ixD (d:Cd):Nat:=d.at_.toNat
structure CdOk (Z:Fx) (cs:List Cm) (g:Gp) (d:Cd):Prop where
 nn:0<=d.at_
 at_:cs[ixD d]? =some d.c
 id:d.id=cmID Z d.c
 since:d.since=snI g.ms d.c.author
 x:d.x.g=nxG Z g d.c
 ok:nxE Z g d.c=0
noncomputable def flB (Z:Fx) (cs:List Cm) (g:Gp) (i:Nat):Bool:=match cs[i]? with|some c=>eqD c.par g.last&&decide (nxE Z g c=0)|none=>false
noncomputable def caT (Z:Fx) (cs:List Cm) (g:Gp) (k:Nat):List Nat:=(((plT Z cs cs.length).take k).map λp=>p.2.toNat).filter (flB Z cs g)
theorem caT_yes{cs:List Cm}{q:Dk×Int}(hq:(plT Z cs cs.length)[k]? =some q)(hi:q.2=(i:Int))(h:flB Z cs g i=true):caT Z cs g (k+1)=caT Z cs g k++[i]:=by
 unfold caT;rw[np hq,ayo,List.filter_append];simp[hi,h]
theorem caT_no{cs:List Cm}{q:Dk×Int}(hq:(plT Z cs cs.length)[k]? =some q)(hi:q.2=(i:Int))(h:flB Z cs g i=false):caT Z cs g (k+1)=caT Z cs g k:=by
 unfold caT;rw[np hq,ayo,List.filter_append];simp[hi,h]
theorem flB_par{cs:List Cm}{c:Cm}(hc:cs[i]? =some c)(h:¬eqD c.par g.last=true):flB Z cs g i=false:=by simp[flB,hc,h]
theorem flB_err{cs:List Cm}{c:Cm}(hc:cs[i]? =some c)(h:¬nxE Z g c=0):flB Z cs g i=false:=by simp[flB,hc,h]
theorem flB_yes{cs:List Cm}{c:Cm}(hc:cs[i]? =some c)(h:eqD c.par g.last=true)(h2:nxE Z g c=0):flB Z cs g i=true:=by simp[flB,hc,h,h2]
theorem n2l{cs:List Cm}(h:i∈caT Z cs g k):∃c,cs[i]? =some c/\(dk (cmID Z c),(i:Int))∈(plT Z cs cs.length):=by
 obtain⟨h1,_⟩:=aMo.1 h;obtain⟨p,hp,rfl⟩:=ano.1 h1;have hp2:=List.mem_of_mem_take hp;obtain⟨j,c,e1,e2,e3,e4⟩:=nbi Z cs _ p hp2;refine⟨c,by rw[e1];exact e3,?_⟩;have e:p=(dk (cmID Z c),((p.2.toNat:Nat):Int)):=by
  obtain⟨p1,p2⟩:=p;simp only at e1 e4 ⊢;rw[e4,e1];rfl
 rw[<-e];exact hp2
noncomputable def kyN (Z:Fx) (cs:List Cm) (g:Gp) (i:Nat):Int×Int×List UInt8:=match cs[i]? with|some c=>(snI g.ms c.author,c.author,dgU (cmID Z c))|none=>(0,0,[])
theorem CdOk.key{cs:List Cm}{d:Cd}(h:CdOk Z cs g d):kyD d=kyN Z cs g (ixD d):=by simp only[kyD,kyN,h.at_,h.since,h.id]
noncomputable def leN (Z:Fx) (cs:List Cm) (g:Gp) (i j:Nat):Bool:=decide (ky3 (kyN Z cs g i) (kyN Z cs g j)<=0)
noncomputable def caL (Z:Fx) (cs:List Cm) (g:Gp):List Nat:=(caT Z cs g (plT Z cs cs.length).length).mergeSort (leN Z cs g)
theorem dgU_inj{g:Nat->Int}(hf:Byt f)(hg:Byt g)(h:dgU f=dgU g):dk f=dk g:=by
 have key:∀i,i<32->f i=g i:=by
  intro i hi;have h1:=nSh f hf i hi;have h2:=nSh g hg i hi;rw[<-h1,<-h2,h]
 unfold dk;congr 1;rw[key 0 zI,key 1 zI,key 2 zI,key 3 zI,key 4 zI,key 5 zI,key 6 zI,key 7 zI,key 8 zI,key 9 zI,key 10 zI,key 11 zI,key 12 zI,key 13 zI,key 14 zI,key 15 zI,key 16 zI,key 17 zI,key 18 zI,key 19 zI,key 20 zI,key 21 zI,key 22 zI,key 23 zI,key 24 zI,key 25 zI,key 26 zI,key 27 zI,key 28 zI,key 29 zI,key 30 zI,key 31 zI]
theorem caL_inj(hZ:FxOk Z){cs:List Cm}:∀a∈caT Z cs g k,∀b∈caT Z cs g k,leN Z cs g a b=true->leN Z cs g b a=true->a=b:=by
 intro a ha b hb h1 h2;obtain⟨c,hc,hm⟩:=n2l ha;obtain⟨c2,hc2,hm2⟩:=n2l hb;simp only[leN,decide_eq_true_eq]at h1 h2;have h3:=CO.ky3.anti (kyN Z cs g a) (kyN Z cs g b);have h4:=ky3_eq (x:=kyN Z cs g a) (y:=kyN Z cs g b) zG;simp only[kyN,hc,hc2]at h4;have h5:dk (cmID Z c)=dk (cmID Z c2):=dgU_inj (hZ.byt _ _) (hZ.byt _ _) h4;have nd:=nGj Z cs cs.length;obtain⟨i,hi⟩:=aoo.1 hm;obtain⟨j,hj⟩:=aoo.1 hm2;have hil:=nz hi;have hjl:=nz hj;have hij:i=j:=by
  have e1:((plT Z cs cs.length).map (·.1))[i]? =some (dk (cmID Z c)):=by rw[aSo,hi];rfl
  have e2:((plT Z cs cs.length).map (·.1))[j]? =some (dk (cmID Z c)):=by rw[aSo,hj,h5];rfl
  exact(List.getElem?_inj (by rw[aAo];exact hil) nd).1 (e1.trans e2.symm)
 subst hij;rw[hi]at hj;have:=(Prod.mk.inj (Option.some.inj hj)).2;omega
instance:Inhabited Cd:=⟨⟨0,⟨0,0,λ_=>0,0,[],none,0,[],none,0,[],none,0,[],none,0,λ_=>0,0,0⟩,λ_=>0,0,zGv⟩⟩
theorem nTn{α:Type}[Inhabited α]{cf:α->α->Int}(h:CO cf)(xs:List α):(srtF cf xs).Pairwise (λa b=>cf a b<=0):=by
 have hs:=(Go.Sort.pdq_sorts (Go.Proofs.ltOf cf) h.swo xs.toArray 0 xs.toArray.size (Go.Lib.bitLen xs.toArray.size) true true (a3o _) (abo _) (Or.inl rfl)).2;have hl:(srtF cf xs).length=xs.toArray.size:=by rw[nZc h.swo];simp
 rw[List.pairwise_iff_getElem];intro i j hi hj hij;have h2:=hs i j (a3o _) hij zG;simp only[Go.Proofs.ltOf,decide_eq_false_iff_not]at h2;have e:∀k (hk:k<(srtF cf xs).length),(Go.Sort.pdq (Go.Proofs.ltOf cf) xs.toArray 0 xs.toArray.size (Go.Lib.bitLen xs.toArray.size) true true)[k]! =(srtF cf xs)[k]:=by
  intro k hk;unfold srtF at hk ⊢;rw[Array.length_toList]at hk;rw[Array.getElem_toList];exact getElem!_pos (Go.Sort.pdq (Go.Proofs.ltOf cf) xs.toArray 0 xs.toArray.size (Go.Lib.bitLen xs.toArray.size) true true) k hk
 rw[e i hi,e j hj]at h2;have:=h.anti ((srtF cf xs)[i]) ((srtF cf xs)[j]);omega
theorem srt_map(hZ:FxOk Z){cs:List Cm}{ds:List Cd}(hm:ds.map ixD=caT Z cs g (plT Z cs cs.length).length)(hd:∀d∈ds,CdOk Z cs g d):(srtF rkI ds).map ixD=caL Z cs g:=by
 have hp:(srtF rkI ds).Perm ds:=npg CO.rkI.swo ds;have hp1:((srtF rkI ds).map ixD).Perm (caT Z cs g (plT Z cs cs.length).length):=hm▸hp.map ixD;have hp2:(caL Z cs g).Perm (caT Z cs g (plT Z cs cs.length).length):=List.mergeSort_perm _ _;refine nrj (le:=leN Z cs g) (λa ha b hb=>caL_inj hZ a (hp1.mem_iff.1 ha) b (hp1.mem_iff.1 hb)) ?_ ?_ (hp1.trans hp2.symm)
 ·rw[List.pairwise_map];refine(nTn CO.rkI ds).imp_of_mem ?_;intro a b ha hb h;have h1:=(hd a (hp.mem_iff.1 ha)).key;have h2:=(hd b (hp.mem_iff.1 hb)).key;simp only[leN,decide_eq_true_eq,<-h1,<-h2];exact h
 refine List.pairwise_mergeSort (λa b c h1 h2=>?_) (λa b=>?_) _
 ·simp only[leN,decide_eq_true_eq]at *;exact CO.ky3.trans _ _ _ h1 h2
 have:=CO.ky3.anti (kyN Z cs g a) (kyN Z cs g b);simp only[leN,Bool.or_eq_true,decide_eq_true_eq];omega
structure GvF (F:Heap) (x:Gv):Prop where
 ms:SlF mbA 3 F x.ma x.g.ms
 ns:SlF ndA 2 F x.na x.g.ns
 mn:x.g.ms.length<=10000
 nn:x.g.ns.length<=80000
theorem GvF.mono{F':Heap}{x:Gv}(h:GvF F x)(hF:∀p∈F,p∈F'):GvF F' x:=⟨h.ms.mono hF,h.ns.mono hF,h.mn,h.nn⟩
theorem GvF.lies{x:Gv}(h:GvF F x)(hW:∀p∈F,p.1<N/\W.heap[p.1]? =some p.2):GvAt N W x:=⟨h.ms.at hW,h.ns.at hW,h.mn,h.nn⟩
def GvNew (K:Nat) (x:Gv):Prop:=(∀q,x.ma=some q->x.g.ms=[]\/K<=q.block)/\(∀q,x.na=some q->x.g.ns=[]\/K<=q.block)
theorem GvF.new{x:Gv}{K:Nat}(h:GvF F x)(hF:∀p∈F,K<=p.1):GvNew K x:=⟨h.ms.ge hF,h.ns.ge hF⟩
theorem n4j(hZ:FxOk Z)(G:Gv)(c:Cm)(hcg:CmGood c)(N:Nat)(w:World)(hN:N<=w.heap.size)(hG:GvAt N w G)(hC:CmAt N w c)(hg:Glb w):Calls prog 79 #[.agg (gpA G),.agg (cmA c)] w (λe w'=>∃(X:Gv) (F':Heap),e= .returned (.tuple #[.agg (gpA X),.int .i64 (nxE Z G.g c)])/\Below w.heap.size w w'/\(∀p∈F',w.heap.size<=p.1/\w'.heap[p.1]? =some p.2)/\X.g=nxR Z G.g c/\GvF F' X):=by
 refine(noe hZ G c hcg N w hN hG hC hg).mono ?_;rintro e w' ⟨X,rfl,hb,hg9,hat,hn1,hn2⟩;obtain⟨F1,hF1,hs1⟩:=hat.ms.fs hn1;obtain⟨F2,hF2,hs2⟩:=hat.ns.fs hn2;refine⟨X,F1++F2,rfl,hb,λp hp=>(azo.1 hp).elim (hF1 p) (hF2 p),hg9,hs1.mono (λp hp=>azo.2 (.inl hp)),hs2.mono (λp hp=>azo.2 (.inr hp)),hat.mn,hat.nn⟩
theorem sortCd{xs:List Cd}(hl:xs.length<=1000000){cap:Nat}(hfit:(Rw.row b cap sp).Fit 143 xs)(h:W.heap[b]? =some (rwO cdE 104 xs sp))(bk:Nat)(hrk:∀w:World,Keep (· =b) W w->RkAt w bk):Calls prog 131 #[.slice (some ⟨b,0,none⟩) xs.length cap,.func (.func 241) #[] #[ptr bk 0]] W (λe w'=>∃sp',e= .returned ((λ_=>.tuple #[]) (Rw.row b cap sp'))/\Keep (· =b) W w'/\(Rw.row b cap sp').Fit 143 (srtF rkI xs)/\w'.heap[b]? =some (rwO cdE 104 (srtF rkI xs) sp')):=by
 have hl2:∀ys:List Cd,ys.length=xs.length->∀(m:Nat) (os:Array Obj),Keep (· =b) W (Go.Proofs.sortWorldK cdE 143 W b 0 m ys.toArray os):=λys hy m os=>(putK2 (n:=m) (os:=os) njc h (ys:=ys) hy).1;have hc:=Go.Proofs.AnyQ.slices_SortFunc_eq Go.Proofs.Tryz.laySC 143 isAgg104 sizeOf104 cdE njc nWi rkI CO.rkI.swo 241 #[ptr bk 0] b 0 cap xs.toArray W (Go.Proofs.enters_of func241 zM rfl) (λm os dk hd x y=>by_x x y bk _ (hrk _ (by have:=hl2 dk.toList (by rw[Array.length_toList,hd];simp) m os;simpa using this))) (nkk njc h) (ago.1 h).1 zGb;change Calls prog 131 _ _ _ at hc;refine hc.mono ?_;rintro e w' ⟨rfl,n,os,rfl⟩;have hp:=putK2 (n:=n) (os:=os) njc h (ys:=srtF rkI xs) (nZc CO.rkI.swo xs);exact⟨sp,rfl,hp.1,by simp only[Rw.Fit,nZc CO.rkI.swo];exact hfit,hp.2⟩
theorem RkAt.keep{w:World}{X:Nat->Prop}(h:RkAt w b)(hk:Keep X w W)(hX:∀k,k<w.heap.size->X k->∀c,w.heap[k]? =some c->∀b',w.heap[b]? =some (.cells #[.slice (some ⟨b',0,none⟩) 3 3] 383 (0,0))->k≠b/\k≠b'):RkAt W b:=by
 obtain⟨b',h1,h2⟩:=h;have l1:=(ago.1 h1).1;have l2:=(ago.1 h2).1;refine⟨b',?_,?_⟩
 ·rw[hk.block b l1 (λhx=>(hX b l1 hx _ h1 b' h1).1 rfl)];exact h1
 rw[hk.block b' l2 (λhx=>(hX b' l2 hx _ h2 b' h1).2 rfl)];exact h2
def RkAb (w:World) (b N:Nat):Prop:=N<=b/\∃b',N<=b'/\w.heap[b]? =some (.cells #[.slice (some ⟨b',0,none⟩) 3 3] 383 (0,0))/\w.heap[b']? =some (.cells #[.func (.func 185) #[] #[],.func (.func 186) #[] #[],.func (.func 187) #[] #[]] 258 (0,0))
theorem RkAb.keep{w:World}{X:Nat->Prop}(h:RkAb w b N)(hk:Keep X w W)(hX:∀k,X k->k<N):RkAb W b N:=by
 obtain⟨h0,b',hb',h1,h2⟩:=h;have l1:=(ago.1 h1).1;have l2:=(ago.1 h2).1;refine⟨h0,b',hb',?_,?_⟩
 ·rw[hk.block b l1 (λhx=>by have:=hX _ hx;omega)];exact h1
 rw[hk.block b' l2 (λhx=>by have:=hX _ hx;omega)];exact h2
theorem RkAb.at{w:World}(h:RkAb w b N):RkAt w b:=⟨h.2.choose,h.2.choose_spec.2⟩
theorem nXm(b:Nat)(w:World):Calls prog 184 #[.slice (some ⟨b,0,none⟩) 3 3] w (RetX w (λb1:Nat=>.func (.func 241) #[] #[ptr b1 0]) (λb1 w1=>w.heap.size<=b1/\w1.heap[b1]? =some (.cells #[.slice (some ⟨b,0,none⟩) 3 3] 383 (0,0)))):=by
 refine enter (vs:=[_]) func184 rfl ntmps184 rfl ?_;refine B 3 ?_;intro b1 w1 hb1 ha1 ho1 hm1 hz1;replace ha1:=yb ha1;replace ho1:=yc ho1;refine B 10 ?_;refine nE b1 results184 rfl A1 rfl ?_;exact λW hS=>⟨by omega,hS.old A0 hb1 hm1 trivial⟩
theorem nsl(w:World):Calls prog 132 #[] w (RetX w (λb1:Nat=>.func (.func 241) #[] #[ptr b1 0]) (λb1 w1=>RkAb w1 b1 w.heap.size)):=by
 refine enter (vs:=[]) func132 rfl ntmps132 rfl ?_;refine B 7 ?_;refine bslR underlying383 sizeOf258 zeroValue258 rfl rfl rfl rfl rfl rfl rfl ?_;intro b1 w1 hb1 ha1 ho1 hm1 hz1;replace ha1:=yb ha1;replace ho1:=yc ho1;refine nq (α:=Nat) (v:=λb9:Nat=>.func (.func 241) #[] #[ptr b9 0]) (Φ:=λW b9 w9=>W.heap.size<=b9/\w9.heap[b9]? =some (.cells #[.slice (some ⟨b1,0,none⟩) 3 3] 383 (0,0))) call184 rfl rfl rfl (λW hS=>nXm b1 W) ?_;rintro W9 b9 w9 hS9 hB9 ⟨hq1,hq2⟩;have hz9:=(hS9.links w1 A0).size;have hzw:=(hS9.links w A1).size;refine B 4 ?_;refine nE b9 results132 rfl A2 rfl ?_;exact λW hS=>⟨by omega,b1,by omega,hS.old A0 hq2 zO trivial,hS.old A1 hb1 hm1 trivial⟩
theorem n1j(bk:Nat)(w:World):Calls prog 233 #[.slice none 0 0,.int .i64 0,.int .i64 0,.func (.func 241) #[] #[ptr bk 0]] w (Ret w (.tuple #[])):=by
 refine enter (vs:=[_,_,_,_]) func233 rfl ntmps233 rfl ?_;refine B 8 ?_;refine CJ.loop (α:=Nat) (λj=>[(0,.slice none 0 0),(1,.int .i64 0),(2,.int .i64 0),(3,.func (.func 241) #[] #[ptr bk 0]),(8,.int .i64 1)]) (λj=>[]) (λj=>[w]) (λj=>Gh.no) (λj=>True) (λj=>0) 0 True.intro zR rfl rfl zS ?_;rintro j _;refine B 5 ?_;refine zUd ?_;refine B 7 ?_;exact retO (.inr rfl) results233 RS.n A0 trivial rfl
theorem nYm(bk:Nat)(l:Int)(w:World):Calls prog 183 #[.slice none 0 0,.int .i64 0,.int .i64 0,.int .i64 l,.func (.func 241) #[] #[ptr bk 0]] w (Ret w (.tuple #[])):=by
 refine enter (vs:=[_,_,_,_,_]) func183 rfl ntmps183 rfl ?_;refine B 11 ?_;refine CJ.loop (α:=Nat) (λj=>[(0,.slice none 0 0),(1,.int .i64 0),(2,.int .i64 0),(3,.int .i64 l),(4,.func (.func 241) #[] #[ptr bk 0])]) (λj=>[]) (λj=>[w]) (λj=>Gh.no) (λj=>True) (λj=>0) 0 True.intro zR rfl rfl zS ?_;rintro j _;refine zFf ?_;refine B 9 ?_;refine call call233 rfl rfl rfl (λW hS=>n1j bk W) ?_;refine B 7 ?_;exact retO (.inl rfl) results183 RS.n A0 trivial rfl
theorem n0l(bk:Nat)(w:World):Calls prog 131 #[.slice none 0 0,.func (.func 241) #[] #[ptr bk 0]] w (Ret w (.tuple #[])):=by
 refine enter (vs:=[_,_]) func131 rfl ntmps131 rfl ?_;refine zAg ?_;refine B 1 ?_;refine call call183 rfl rfl rfl (λW hS=>nYm bk _ W) ?_;refine B 1 ?_;exact retO (.inr rfl) results131 RS.n A0 trivial rfl
theorem nQh(hZ:FxOk Z)(cs:List Cm)(hcs:cs.length<=1000)(hcg:∀c∈cs,CmGood c)(N:Nat)(la:Option Addr)(lc:Nat)(w:World)(hN:N<=w.heap.size)(hsl:SlAt cmA 73 N w la cs)(hC:∀c∈cs,CmAt N w c)(ia:Option Addr)(ic:Nat)(ta:Option Addr)(tc:Nat)(hp:PvAt Z cs N w ⟨ia,ic,ta,tc⟩)(G:Gv)(hG:GvAt N w G)(hg:Glb w):Calls prog 80 #[.agg (pvA Z cs la lc ⟨ia,ic,ta,tc⟩),.agg (gpA G)] w (λe w'=>∃ds:List Cd,(ds.map ixD=caL Z cs G.g/\∀d∈ds,CdOk Z cs G.g d/\GvAt w'.heap.size w' d.x/\GvNew w.heap.size d.x)/\nC w cdE 143 104 ds id e w'):=by
 have hg4:=hg.lt;have hpl:=n3d Z cs cs.length;have hl1:((plT Z cs cs.length).map (·.1)).length=(plT Z cs cs.length).length:=aAo ..;have hl2:((plT Z cs cs.length).map (·.2)).length=(plT Z cs cs.length).length:=aAo ..;have hids:=hp.ids;have hats:=hp.at_;dsimp only at hids hats;refine nT (fzG []) [] (vs:=[_,_]) func80 rfl ntmps80 rfl (st_fz w) ?_;refine B 3 ?_;intro b2 w2 hb2 ha2 ho2 hm2 hz2;replace ha2:=yb ha2;replace ho2:=yc ho2;refine B 1 ?_;intro b3 w3 hb3 ha3 ho3 hm3 hz3;replace ha3:=yb ha3;replace ho3:=yc ho3;refine B 7 ?_;refine rv rfl rfl rfl (RV.re (v':=.slice ta ((plT Z cs cs.length).map (·.2)).length tc) (ldR_r isAgg32 rfl A1 hb2 hm2 trivial rfl) (rfl)) ?_;refine B 5 ?_;refine CJ.loop (α:=((Rw×List Cd)×Heap)×Nat) (λp9=>[(2,ptr b2 0),(3,ptr b3 0),(4,p9.1.1.1.val p9.1.1.2.length),(11,.slice ta ((plT Z cs cs.length).map (·.2)).length tc),(12,.int .i64 (((plT Z cs cs.length).map (·.2)).length:Int)),(13,.int .i64 (p9.2:Int))]) (λp9=>p9.1.1.1.hp cdE 104 p9.1.1.2++[]) (λp9=>[w3,w2,w]) (λp9=>fzG p9.1.2) (λp9=>p9.2<=((plT Z cs cs.length).map (·.2)).length/\p9.1.1.1.Fr (fzG p9.1.2) [w3,w2,w]/\p9.1.1.1.Fit 143 p9.1.1.2/\p9.1.1.2.map ixD=caT Z cs G.g p9.2/\(∀d∈p9.1.1.2,CdOk Z cs G.g d/\GvF p9.1.2 d.x)/\p9.1.1.2.length<=p9.2/\∀q∈p9.1.2,w.heap.size<=q.1) (λp9=>((plT Z cs cs.length).map (·.2)).length-p9.2) (((.nil,[]),[]),0) ⟨a3o _,True.intro,rfl,rfl,by simp,abo _,by simp⟩ zR rfl rfl zS ?_
 rintro⟨⟨⟨r,ds⟩,F⟩,k⟩ ⟨hk,hrf,hrfit,hmap,hds,hdl,hFge⟩;dsimp only at hk hrf hrfit hmap hds hdl hFge ⊢;have hrge:r.ge w3.heap.size:=Rw.ge_fz hrf A0;refine B 6 ?_;refine zCD ?_ ?_
 ·intro hc1;refine B 5 ?_;obtain⟨q,hq⟩:=nj (plT Z cs cs.length) k zG;obtain⟨i,c,hqi,hil,hc,hqk⟩:=nbi Z cs _ q (ajo hq);have hx2:((plT Z cs cs.length).map (·.2))[k]? =some ((i:Nat):Int):=by rw[aSo,hq,aTo,hqi]
  have hx1:((plT Z cs cs.length).map (·.1))[k]? =some (dk (cmID Z c)):=by rw[aSo,hq,aTo,hqk]
  have hcm:=ajo hc;obtain⟨ba,oa,csa,ta,fra,rfl,hba,hcsa,hela⟩:=hats.get zG;obtain⟨bq,oq,csq,tq,frq,rfl,hbq,hcsq,helq⟩:=hids.get zG;obtain⟨bl,ol,csl,tl,frl,rfl,hbl,hcsl,hell⟩:=hsl.get zG;refine B 3 ?_;refine rv rfl rfl rfl (ldR_r (v:=.int .i64 (i:Int)) isAgg3 rfl A2 hcsa zO z4c zhd) ?_;refine B 7 ?_;refine rv rfl rfl rfl (RV.re (v':=.slice (some ⟨bl,ol,none⟩) cs.length lc) (ldR_r isAgg24 rfl A1 hb2 hm2 zWc rfl) (rfl)) ?_;refine B 2 ?_;refine rv rfl rfl rfl (RV.re (v':=.agg (cmA c)) (ldRA_r isAgg102 sizeOf102 rfl A2 hcsl zO z4c (nk hell hc rfl)) (congrArg Value.agg (nl hell hc rfl))) ?_;refine allW zeroValue102 rfl rfl ?_;intro b7 ha7 ho7;replace ha7:=yb ha7;replace ho7:=yc ho7;refine stWw (i:=0) rfl sizeOf102 rfl rfl rfl rfl rfl rfl ?_;refine B 4 ?_;by_cases hq9:eqD c.par G.g.last=true
  ·refine B 2 ?_;refine zVg ?_;refine B 1 ?_;refine zTg ?_;refine rv rfl rfl rfl (RV.re (v':=.bool false) (neqA_r nUb zI nob rfl rfl rfl) (congrArg (λq=>Value.bool (!q)) hq9)) ?_;refine B 7 ?_;refine rv rfl rfl rfl (RV.re (v':=.agg (gpA G)) (ldRAw_r isAgg62 sizeOf62 rfl A0 hb3 hm3 zWc rfl) (rfl)) ?_;refine rv rfl rfl rfl (RV.re (v':=.agg (cmA c)) (ldWAw_r (i:=0) rfl isAgg102 sizeOf102 rfl rfl) (rfl)) ?_;refine callFz (γ:=Gv) (v:=λX=>.tuple #[.agg (gpA X),.int .i64 (nxE Z G.g c)]) (Φ:=λF X=>X.g=nxR Z G.g c/\GvF F X) call79 rfl rfl rfl (λW hS=>n4j hZ G c (hcg c hcm) N W (aco hN (hS.links w A2).size) (hG.up (abo _) (hS.same A2 hN zN z2c)) ((hC c hcm).up (abo _) (hS.same A2 hN zN z2c)) (hg.old hS A2 zN z2c)) ?_;rintro Xn F2 ⟨hX1,hX2⟩ hF2;obtain⟨e,he⟩:∃e,nxE Z G.g c=e:=⟨_,rfl⟩;rw[he];refine B 3 ?_;refine zYe ?_;intro b8 ha8 ho8;replace ha8:=yb ha8;replace ho8:=yc ho8;refine zje ?_;refine B 9 ?_;refine zCD ?_ ?_
   ·intro hc2;refine CJ.less (E':=[(2,_),(3,_),(4,_),(5,_),(6,_),(7,_),(8,_),(9,_),(11,_),(12,_),(13,_),(14,_),(15,_),(16,_),(17,_),(18,_),(19,_),(20,_),(21,_),(22,_),(23,_),(24,_),(25,_),(26,_),(27,_),(28,_),(29,_),(30,_),(31,_),(32,_),(33,_),(34,_),(35,_)]) zR ?_;refine nJ 15 [14] [([],some _),([],some _),([],some (.agg (cmA c))),([],some _),([3],some (.slice (some ⟨bq,oq,none⟩) ((plT Z cs cs.length).map (·.1)).length ic)),([],some _),([4,5],some _),([6],some (.agg (dg (cmID Z c)))),([],some (.agg (gpA G))),([],some _),([9],some (.int .i64 c.author)),([8,10],some (.int .i64 (snI G.g.ms c.author))),([],some (.agg (gpA Xn))),([1,2,7,11,12],some (.agg (cdA (⟨(i:Int),c,cmID Z c,snI G.g.ms c.author,Xn⟩:Cd)))),([13],none)] (λcv L' H'=>match cv with| []=>L'=[w3,w2,w]/\H'=[(b8,.cells (gpA Xn) 62 (0,0)),(b7,.cells (cmA c) 102 (0,0))]++(r.hp cdE 104 ds++[])| [v1]=>∃(b50:Nat),v1= .slice (some ⟨b50,0,none⟩) 1 1/\L'=[w3,w2,w]/\H'=[(b50,.cells (cdA (⟨(i:Int),c,cmID Z c,snI G.g.ms c.author,Xn⟩:Cd)) 104 (0,0)),(b8,.cells (gpA Xn) 62 (0,0)),(b7,.cells (cmA c) 102 (0,0))]++(r.hp cdE 104 ds++[])/\w3.heap.size<=b50|_=>False) zM ⟨rfl,rfl⟩ zM zM zM zM zM zM (pc zP (pc zP (pc zcu (pc (by exact λcv L' H' hd hP=>X.val rfl rfl (fld_r underlying95 rfl sizeOf35 rfl) R2) (pc zcu (pc zP (pc (by exact λcv L' H' hd hP=>X.val rfl rfl (idxS_r underlying35 sizeOf43 rfl rfl zG zG) R2) (pc zcu (pc zcu (pc zcb (pc zcu (pc zcu (pc zcu (pc zgc (pk (pn)))))))))))))))) ?_ ?_
    ·refine sc rfl rfl rfl ?_ ?_
     ·intro cv L' H' hl hP F Q' hk;obtain rfl:=aap hl;obtain⟨rfl,rfl⟩:=hP;refine bslW underlying193 sizeOf104 zeroValue104 rfl rfl rfl rfl rfl rfl rfl ?_;intro b_ ha_ ho_;exact OJ.done (hk _ _ _ ⟨b_,rfl,rfl,rfl,ha_.1⟩)
     exact sn
    intro cv L' H' hl hP;obtain⟨v1,rfl⟩:=len1 hl;obtain⟨b50,rfl,rfl,rfl,ha50⟩:=hP;refine apT (r:=r) (xs:=ds) (zs:=[(⟨(i:Int),c,cmID Z c,snI G.g.ms c.author,Xn⟩:Cd)]) (enc:=cdE) (m:=143) (H0:=[(b50,.cells (cdA (⟨(i:Int),c,cmID Z c,snI G.g.ms c.author,Xn⟩:Cd)) 104 (0,0)),(b8,.cells (gpA Xn) 62 (0,0)),(b7,.cells (cmA c) 102 (0,0))]) (H1:=[]) zub rowTCd njc rfl rfl rfl rfl (SrcT.one (z:=(⟨(i:Int),c,cmID Z c,snI G.g.ms c.author,Xn⟩:Cd)) njc nWi underlying193 (Lies.own (i:=0) rfl)) hrfit hrf zS z8b ?_;intro b51 cp51 sp51 hf51 hfit51;replace hf51:=yb hf51;refine zyh ?_;refine zWd ?_;refine zWd ?_;refine PJ.again (((Rw.row b51 cp51 sp51,ds++[(⟨(i:Int),c,cmID Z c,snI G.g.ms c.author,Xn⟩:Cd)]),F2++F),k+1) ⟨by dsimp only;omega,hf51.elim (λh=>Rw.Fr_at hrf h) (λh=>.inr h),hfit51,by dsimp only;rw[caT_yes hq hqi (flB_yes hc hq9 (by rw[he];assumption)),ayo,hmap];rfl,λd hd=>(azo.1 hd).elim (λh=>⟨(hds d h).1,(hds d h).2.mono (λp hp=>azo.2 (.inr hp))⟩) (λh=>by rw[agp.1 h];exact⟨⟨Int.natCast_nonneg _,hc,rfl,rfl,hX1.trans (if_pos (by rw[he];assumption)),by rw[he];assumption⟩,hX2.mono (λp hp=>azo.2 (.inl hp))⟩),by dsimp only;rw[aHo,aJo];omega,λq hq=>(azo.1 hq).elim (λh=>(hF2 q h).not A2) (hFge q)⟩ z2 zR rfl rfl zS
   intro hc2;refine zGh ?_;refine PJ.again (((r,ds),F2++F),k+1) ⟨by dsimp only;omega,hrf,hrfit,by dsimp only;rw[caT_no hq hqi (flB_err hc (by rw[he];assumption))];exact hmap,λd hd=>⟨(hds d hd).1,(hds d hd).2.mono (λp hp=>azo.2 (.inr hp))⟩,by dsimp only;omega,λq hq=>(azo.1 hq).elim (λh=>(hF2 q h).not A2) (hFge q)⟩ z2 zR rfl rfl zS
  refine B 2 ?_;refine zVg ?_;refine B 1 ?_;refine zTg ?_;refine rv rfl rfl rfl (RV.re (v':=.bool true) (neqA_r nUb zI nob rfl rfl rfl) (congrArg (λq=>Value.bool (!q)) (Bool.eq_false_iff.2 hq9))) ?_;refine B 11 ?_;refine zWd ?_;refine PJ.again (((r,ds),F),k+1) ⟨by dsimp only;omega,hrf,hrfit,by dsimp only;rw[caT_no hq hqi (flB_par hc hq9)];exact hmap,hds,by dsimp only;omega,hFge⟩ z2 zR rfl rfl zS
 intro hc1;refine B 6 ?_;have hke:k=(plT Z cs cs.length).length:=by omega
 rw[hke]at hmap;refine B 2 ?_;refine nq (α:=Nat) (v:=λb:Nat=>.func (.func 241) #[] #[ptr b 0]) (Φ:=λW b w1=>RkAb w1 b W.heap.size) call132 rfl rfl rfl (λW hS=>nsl W) ?_;intro Wk bk wk hSk hBk hrk;have hzk:=hBk.size;refine n8c (r:=r) (enc:=cdE) (m:=143) (t:=104) (xs:=ds) (ys:=srtF rkI ds) (H0:=[]) (H1:=[]) (v:=λ_=>.tuple #[]) rfl call131 rfl rfl rfl (λhr W hS=>?_) (λb cap sp hr W hS h=>?_) ?_
 ·subst hr;have h0:ds=[]:=hrfit;subst h0;exact(n0l bk W).mono λe w2 h=>⟨h.1,aap (nZc CO.rkI.swo []),h.2⟩
 ·subst hr;have hbl:b<Wk.heap.size:=hSk.lt (b,_) A0;exact sortCd zG hrfit h bk (λw9 hk9=>((hrk.keep (X:=λk=>k=b) ((hS.links wk A0).mono (λk _ hx=>by rcases hx with hx|hx;(exact hx.elim);simpa[Rw.hp]using hx)) (λk hk=>by omega)).keep hk9 (λk hk=>by omega)).at)
 intro r2 hfit2 hfr2 hge2 hval2;have hrge2:=hge2 _ hrge;refine B 9 ?_;refine retG (.inl rfl) results80 (RS.t rfl RS.n) λW hS=>?_;have hpm:(srtF rkI ds).Perm ds:=npg CO.rkI.swo ds;refine⟨srtF rkI ds,⟨srt_map hZ hmap (λd hd=>(hds d hd).1),λd hd=>⟨(hds d (hpm.mem_iff.1 hd)).1,(hds d (hpm.mem_iff.1 hd)).2.lies hS.fzLies,(hds d (hpm.mem_iff.1 hd)).2.new hFge⟩⟩,r2,?_,?_,Rw.ge_mono hrge2 zG,hfit2,?_⟩
 ·show Ending.returned (r.val ds.length)=Ending.returned (r2.val (srtF rkI ds).length);rw[hval2,nZc CO.rkI.swo]
 ·exact(hS.links w A3).below (λk hk hx=>by rcases hx with hx|hx;(exact hx);simp only[abp,asp]at hx;have:=Rw.mem_ge hrge2 hx;omega)
 cases r2 with
  |nil=>trivial
  |row b cap sp=>exact hS.own (b,_) zqc
instance:Inhabited Cm:=⟨⟨0,0,λ_=>0,0,[],none,0,[],none,0,[],none,0,[],none,0,λ_=>0,0,0⟩⟩
def zCd:Cd:=default
def strk {α:Type} (cf:α->Cm) (l:List α) (d:α):Bool:=l.any λx=>decide ((cf x).author≠(cf d).author)&&(cf x).chs.any (rmvP (cf d).author)
def bstW {α:Type} (cf:α->Cm) (b:Option α) (d:α):Option α:=match b with|none=>some d|some w=>if rmN (cf w).chs<rmN (cf d).chs then some d else some w
def wnS {α:Type} (cf:α->Cm) (s:List α×Option α) (d:α):List α×Option α:=if strk cf s.1 d=true then s else(s.1++[d],bstW cf s.2 d)
def wnT {α:Type} (cf:α->Cm) (l:List α) (k:Nat):List α×Option α:=(l.take k).foldl (wnS cf) ([],none)
theorem nld{α:Type}{cf:α->Cm}{l:List α}{d:α}(h:l[k]? =some d):wnT cf l (k+1)=wnS cf (wnT cf l k) d:=by unfold wnT;rw[np h,awp];rfl
theorem n8e{α:Type}(cf:α->Cm)(l:List α):∀k,(∀x∈(wnT cf l k).1,x∈l)/\∀x,(wnT cf l k).2=some x->x∈l
 |0=>⟨λx hx=>by simp[wnT]at hx,λx hx=>by simp[wnT]at hx⟩
 |k+1=>by
  have ih:=n8e cf l k;by_cases hk:k<l.length
  ·obtain⟨d,hd⟩:=nj l k hk;have hm:=ajo hd;rw[nld hd];unfold wnS;split
   ·exact ih
   refine⟨λx hx=>?_,λx hx=>?_⟩
   ·rcases azo.1 hx with hx|hx
    ·exact ih.1 x hx
    rw[agp.1 hx];exact hm
   dsimp only[bstW]at hx;split at hx
   ·cases hx;exact hm
   rename_i w hw;split at hx
   ·cases hx;exact hm
   cases hx;exact ih.2 _ hw
  have e:wnT cf l (k+1)=wnT cf l k:=by unfold wnT;rw[afp zG,afp zG]
  rw[e];exact ih
theorem nam{α:Type}(cf:α->Cm)(l:List α):∀k,(wnT cf l k).1.length<=k
 |0=>by simp[wnT]
 |k+1=>by
  have ih:=nam cf l k;by_cases hk:k<l.length
  ·obtain⟨d,hd⟩:=nj l k hk;rw[nld hd];unfold wnS;split
   ·omega
   rw[aHo,aJo];omega
  have e:wnT cf l (k+1)=wnT cf l k:=by unfold wnT;rw[afp zG,afp zG]
  rw[e];omega
theorem nXk{α β:Type}{f:α->β}{p:β->Bool}{q:α->Bool}:∀{l:List α},(∀x∈l,p (f x)=q x)->(l.map f).any p=l.any q
 | [],_=>rfl
 |x::l,h=>by simp only[afo,List.any_cons,h x A0,nXk λy hy=>h y (.tail _ hy)]
theorem nIm{α β:Type}{cf:α->Cm}{cg:β->Cm}(f:α->β){l:List α}(h:∀d∈l,cg (f d)=cf d):∀k,wnT cg (l.map f) k=((wnT cf l k).1.map f,(wnT cf l k).2.map f)
 |0=>rfl
 |k+1=>by
  have ih:=nIm f h k;have hsub:=n8e cf l k;by_cases hk:k<l.length
  ·obtain⟨d,hd⟩:=nj l k hk;have hm:=ajo hd;have hd2:(l.map f)[k]? =some (f d):=by rw[aSo,hd];rfl
   rw[nld hd2,nld hd,ih];have e1:strk cg ((wnT cf l k).1.map f) (f d)=strk cf (wnT cf l k).1 d:=by
    unfold strk;rw[h d hm];exact nXk λx hx=>by rw[h x (hsub.1 x hx)]
   have e2:bstW cg ((wnT cf l k).2.map f) (f d)=(bstW cf (wnT cf l k).2 d).map f:=by
    cases hw:(wnT cf l k).2 with
    |none=>rfl
    |some w=>
     simp only[bstW,aTo,h d hm,h w (hsub.2 w hw)];split<;>rfl
   unfold wnS;dsimp only;rw[e1];split
   ·rfl
   rw[e2];simp
  have e1:wnT cg (l.map f) (k+1)=wnT cg (l.map f) k:=by unfold wnT;rw[afp (by rw[aAo];omega),afp (by rw[aAo];omega)]
  have e2:wnT cf l (k+1)=wnT cf l k:=by unfold wnT;rw[afp zG,afp zG]
  rw[e1,e2,ih]
def cmN (cs:List Cm) (i:Nat):Cm:=(cs[i]?).getD default
noncomputable def wnI (Z:Fx) (cs:List Cm) (g:Gp):Option Nat:=(wnT (cmN cs) (caL Z cs g) (caL Z cs g).length).2
theorem wn_I{cs:List Cm}{ds:List Cd}(hm:ds.map ixD=caL Z cs g)(hd:∀d∈ds,CdOk Z cs g d):wnI Z cs g=(wnT (·.c) ds ds.length).2.map ixD:=by
 unfold wnI;rw[<-hm,aAo,nIm (cf:=(·.c)) ixD (λd h=>by unfold cmN;rw[(hd d h).at_];rfl)]
theorem GvAt.toG{K:Nat}{w:World}{x:Gv}(h:GvAt N w x)(hn:GvNew K x)(hS:St G L H W)(hw:w∈L)(hN:N<=w.heap.size)(ho:∀b,K<=b->b<N->¬G.X b/\Off H b):GvAt W.heap.size W x:=
 ⟨h.ms.toG hS hw hN (λb off e=>(hn.1 _ e).imp id (λh=>ho b h)),h.ns.toG hS hw hN (λb off e=>(hn.2 _ e).imp id (λh=>ho b h)),h.mn,h.nn⟩
theorem GvNew.mono{K K':Nat}{x:Gv}(h:GvNew K x)(hk:K'<=K):GvNew K' x:=⟨λq e=>(h.1 q e).imp id (aco hk),λq e=>(h.2 q e).imp id (aco hk)⟩
theorem nXd{α:Type}{cf:α->Cm}{l:List α}{d:α}(h:l[k]? =some d)(hs:strk cf (wnT cf l k).1 d=true):wnT cf l (k+1)=wnT cf l k:=by rw[nld h];unfold wnS;rw[if_pos hs]
theorem nGb{α:Type}{cf:α->Cm}{l:List α}{d:α}(h:l[k]? =some d)(hs:strk cf (wnT cf l k).1 d=false):wnT cf l (k+1)=((wnT cf l k).1++[d],bstW cf (wnT cf l k).2 d):=by rw[nld h];unfold wnS;rw[if_neg (by rw[hs];decide)]
theorem nHl(hZ:FxOk Z)(cs:List Cm)(hcs:cs.length<=1000)(hcg:∀c∈cs,CmGood c)(N:Nat)(la:Option Addr)(lc:Nat)(w:World)(hN:N<=w.heap.size)(hsl:SlAt cmA 73 N w la cs)(hC:∀c∈cs,CmAt N w c)(ia:Option Addr)(ic:Nat)(ta:Option Addr)(tc:Nat)(hp:PvAt Z cs N w ⟨ia,ic,ta,tc⟩)(G:Gv)(hG:GvAt N w G)(hg:Glb w):Calls prog 50 #[.agg (pvA Z cs la lc ⟨ia,ic,ta,tc⟩),.agg (gpA G)] w (RetX w (λq:Cd×Bool=>.tuple #[.agg (cdA q.1),.bool q.2]) (λq w'=>(q.2=true/\wnI Z cs G.g=some (ixD q.1)/\CdOk Z cs G.g q.1/\GvAt w'.heap.size w' q.1.x/\GvNew w.heap.size q.1.x)\/(q.2=false/\wnI Z cs G.g=none))):=by
 have hg4:=hg.lt;have hpl:=n3d Z cs cs.length;refine enter (vs:=[_,_]) func50 rfl ntmps50 rfl ?_;refine B 3 ?_;intro b2 w2 hb2 ha2 ho2 hm2 hz2;replace ha2:=yb ha2;replace ho2:=yc ho2;refine B 1 ?_;intro b3 w3 hb3 ha3 ho3 hm3 hz3;replace ha3:=yb ha3;replace ho3:=yc ho3;refine zIg ?_;intro b4 ha4 ho4;replace ha4:=yb ha4;replace ho4:=yc ho4;refine B 11 ?_;refine rv rfl rfl rfl (RV.re (v':=.agg (pvA Z cs la lc ⟨ia,ic,ta,tc⟩)) (ldRAw_r isAgg95 sizeOf95 rfl A1 hb2 hm2 zF rfl) (rfl)) ?_;refine zoe ?_;refine callRrX (enc:=cdE) (m:=143) (t:=104) (v:=id) (Φ:=λW w9 ds=>ds.map ixD=caL Z cs G.g/\∀d∈ds,CdOk Z cs G.g d/\GvAt w9.heap.size w9 d.x/\GvNew W.heap.size d.x) call80 rfl rfl rfl njc (λW hS=>nQh hZ cs hcs hcg N la lc W (aco hN (hS.links w A2).size) (hsl.up (abo _) (hS.same A2 hN zN zH)) (λc hc=>(hC c hc).up (abo _) (hS.same A2 hN zN zH)) ia ic ta tc (hp.up (abo _) (hS.same A2 hN zN zH)) G (hG.up (abo _) (hS.same A2 hN zN zH)) (hg.old hS A2 zN zH)) ?_;rintro W9 ds a9 c9 w9 hS9 hB9 ⟨hmap,hds⟩ hsl9 hne9;have hz9:=hB9.size;have hzW9:=(hS9.links w3 A0).size;have hdl:ds.length<=cs.length:=by
  have h1:=congrArg List.length hmap;rw[aAo]at h1;unfold caL at h1;rw[List.length_mergeSort]at h1;unfold caT at h1;have h2:=aAp (flB Z cs G.g) (((plT Z cs cs.length).take (plT Z cs cs.length).length).map λp=>p.2.toNat);rw[aAo,anp]at h2;omega
 have hsl9b:SlAt cdA 143 w9.heap.size w9 a9 ds:=hsl9;have hb4W:=(hS9.lt (b4,_) A0);try dsimp only at hb4W
 refine B 5 ?_;refine CJ.loop (α:=((Rw×Cd)×Bool)×Nat) (λp9=>[(2,ptr b2 0),(3,ptr b3 0),(4,ptr b4 0),(5,.bool p9.1.2),(6,p9.1.1.1.val (wnT (λd:Cd=>d.c) ds p9.2).1.length),(12,.slice a9 ds.length c9),(13,.int .i64 (ds.length:Int)),(14,.int .i64 (p9.2:Int))]) (λp9=>[(b4,.cells (cdA p9.1.1.2) 104 (0,0))]++(p9.1.1.1.hp cdE 104 (wnT (λd:Cd=>d.c) ds p9.2).1++[])) (λp9=>[w9,w3,w2,w]) (λp9=>Gh.no) (λp9=>p9.2<=ds.length/\p9.1.1.1.Fr Gh.no [w9,w3,w2,w]/\p9.1.1.1.Fit 143 (wnT (λd:Cd=>d.c) ds p9.2).1/\((p9.1.2=false/\(wnT (λd:Cd=>d.c) ds p9.2).2=none/\p9.1.1.2=zCd)\/(p9.1.2=true/\(wnT (λd:Cd=>d.c) ds p9.2).2=some p9.1.1.2))) (λp9=>ds.length-p9.2) (((.nil,zCd),false),0) ⟨a3o _,True.intro,rfl,.inl ⟨rfl,rfl,rfl⟩⟩ zR rfl rfl zS ?_;rintro⟨⟨⟨r,bst⟩,okb⟩,k⟩ ⟨hk,hrf,hrfit,hbst⟩;dsimp only at hk hrf hrfit hbst ⊢;have hrge:r.ge w9.heap.size:=Rw.ge_of hrf A0;have hsub:=n8e (λd:Cd=>d.c) ds k;have hlf:=nam (λd:Cd=>d.c) ds k;refine B 6 ?_;refine zCD ?_ ?_
 ·intro hc1;refine B 5 ?_;obtain⟨b9,o9,cs9,t9,fr9,rfl,hb9,hcs9,hel9⟩:=hsl9b.get zG;obtain⟨d,hd⟩:=nj ds k zG;have hn9:=hne9 _ rfl;try dsimp only at hn9
  refine B 2 ?_;refine rv rfl rfl rfl (RV.re (v':=.agg (cdA d)) (ldRA_r isAgg104 sizeOf104 rfl A0 hcs9 zO z4c (nk hel9 hd rfl)) (congrArg Value.agg (nl hel9 hd rfl))) ?_;refine zIg ?_;intro b8 ha8 ho8;replace ha8:=yb ha8;replace ho8:=yc ho8;refine zff ?_;refine B 6 ?_;have hrat:∀W,St Gh.no [w9,w3,w2,w] ([(b8,.cells (cdA d) 104 (0,0)),(b4,.cells (cdA bst) 104 (0,0))]++(r.hp cdE 104 (wnT (λd:Cd=>d.c) ds k).1++[])) W->r.At cdE 104 (wnT (λd:Cd=>d.c) ds k).1 W:=λW hS=>by
   cases r with
   |nil=>trivial
   |row b cap sp=>exact hS.own (b,_) zqc
  refine call call81 rfl rfl rfl (λW hS=>by
   obtain⟨a5,c5,he5,hs5⟩:=Rw.sl njc hrfit (hrat W hS) (abo W.heap.size);rw[he5];exact nOh (λx=>decide (x.c.author≠d.c.author)&&x.c.chs.any (rmvP d.c.author)) 82 [ptr b8 0] call82 (wnT (λd:Cd=>d.c) ds k).1 zG W.heap.size a5 c5 W (abo _) hs5 (λj x hx W2 hB=>by
    have hxm:=(hsub.1 x (ajo hx));have hxc:x.c∈cs:=ajo (hds x hxm).1.at_;have hxl:=(hcg x.c hxc).few.chs;have hwl:=(hS.links w A3).size;exact winner_1 d x zG N b8 W2 (aco hN (aco hwl hB.size)) (((hC x.c hxc).chs.up (abo _) (hS.same A3 hN zN z2c)).up (abo _) (λq hq=>hB.block q zG)) (by rw[hB.block b8 (hS.lt (b8,_) A0)];exact hS.own (b8,_) A0))) (v:=.bool (strk (λd:Cd=>d.c) (wnT (λd:Cd=>d.c) ds k).1 d)) ?_
  refine B 5 ?_;have hx:=hd;refine B 4 ?_;refine zCD ?_ ?_
  ·intro hc2;refine zyh ?_;refine PJ.again (((r,bst),okb),k+1) ⟨by dsimp only;omega,hrf,by dsimp only;rw[nXd hd zZ];exact hrfit,by dsimp only;rw[nXd hd zZ];exact hbst⟩ z2 ⟨rfl,rfl,rfl,rfl,by rw[nXd hd zZ];rfl,rfl,rfl,rfl,trivial⟩ (by rw[nXd hd zZ];rfl) rfl zS
  intro hc2;refine B 3 ?_;have hst:strk (λd:Cd=>d.c) (wnT (λd:Cd=>d.c) ds k).1 d=false:=by assumption
  refine B 2 ?_;refine zRe ?_;refine bslW underlying193 sizeOf104 zeroValue104 rfl rfl rfl rfl rfl rfl rfl ?_;intro b24 ha24 ho24;replace ha24:=yb ha24;replace ho24:=yc ho24;refine apT (r:=r) (xs:=(wnT (λd:Cd=>d.c) ds k).1) (zs:=[d]) (enc:=cdE) (m:=143) (H0:=[(b24,.cells (cdA d) 104 (0,0)),(b8,.cells (cdA d) 104 (0,0)),(b4,.cells (cdA bst) 104 (0,0))]) (H1:=[]) zub rowTCd njc rfl rfl rfl rfl (SrcT.one (z:=d) njc nWi underlying193 (Lies.own (i:=0) rfl)) hrfit hrf zS z8b ?_;intro b25 cp25 sp25 hf25 hfit25;replace hf25:=yb hf25;refine B 4 ?_;have hdm:=ajo hd;have hdc:d.c∈cs:=ajo (hds d hdm).1.at_;have hdl2:=(hcg d.c hdc).few.chs;have hrge8:(Rw.row b25 cp25 sp25).ge w.heap.size:=by rcases hf25 with h|h;(have:=Rw.ge_at hrge h;show w.heap.size<=b25;omega);(show w.heap.size<=b25;omega)
  have hge25:w.heap.size<=b25:=hrge8;refine CJ.dropAt (i:=0) rfl zQ ?_;rcases hbst with⟨rfl,hb1,rfl⟩|⟨rfl,hb1⟩
  ·refine zLf ?_;refine nw 6 [.det [] _,.det [0] _,.det [1] _,.det [2] undef,.det [2,3] undef,.det [2] undef] zM (xc zK (xc (by exact λvals=>X.val rfl rfl (notB_r rfl) (λ_ _=>rfl)) (xc zK (xc zJ (xc zJ (xc zJ (xn))))))) zM zM zM (λvals=>?_);refine B 7 ?_;refine zRe ?_;refine z1g ?_;refine zyh ?_;refine PJ.again (((Rw.row b25 cp25 sp25,d),true),k+1) ⟨by dsimp only;omega,hf25.elim (λh=>Rw.Fr_at hrf h) (λh=>.inr h),by dsimp only;rw[nGb hd hst];exact hfit25,.inr ⟨rfl,by dsimp only;rw[nGb hd hst];dsimp only;rw[hb1];rfl⟩⟩ z2 ⟨rfl,rfl,rfl,rfl,by rw[nGb hd hst];rfl,rfl,rfl,rfl,trivial⟩ (by rw[nGb hd hst];rfl) rfl zS
  have hbm:=(hsub.2 bst hb1);have hbc:bst.c∈cs:=ajo (hds bst hbm).1.at_;have hbl:=(hcg bst.c hbc).few.chs;refine zLf ?_;refine nw 6 [.det [] _,.det [0] _,.det [1] _,.det [2] _,.det [2,3] (.int .i64 (rmN d.c.chs:Int)),.det [2] _] zM (xc zK (xc (by exact λvals=>X.val rfl rfl (notB_r rfl) (λ_ _=>rfl)) (xc zK (xc (by exact λvals=>X.val rfl rfl (RV.re (v':=.agg (cdA d)) (ldWAw_r (i:=0) rfl isAgg104 sizeOf104 rfl rfl) (rfl)) (λ_ _=>rfl)) (xc (by exact λvals=>ni call84 rfl rfl (λW hS _=>nbh d zG N W (aco hN (hS.links w A3).size) ((hC d.c hdc).chs.up (abo _) (hS.same A3 hN zN zzd))) (λ_=>rfl)) (xc (by exact λvals=>X.val rfl rfl (RV.re (v':=.agg (cdA bst)) (ldWAw_r (i:=1) rfl isAgg104 sizeOf104 rfl rfl) (rfl)) (λ_ _=>rfl)) (xn))))))) zM zM zM (λvals=>?_);refine call call84 rfl rfl rfl (λW hS=>nbh bst zG N W (aco hN (hS.links w A3).size) ((hC bst.c hbc).chs.up (abo _) (hS.same A3 hN zN zzd))) (v:=.int .i64 (rmN bst.c.chs:Int)) ?_;refine B 4 ?_;refine zCD ?_ ?_
  ·intro hc3;refine B 1 ?_;refine zRe ?_;refine z1g ?_;refine zyh ?_;refine PJ.again (((Rw.row b25 cp25 sp25,d),true),k+1) ⟨by dsimp only;omega,hf25.elim (λh=>Rw.Fr_at hrf h) (λh=>.inr h),by dsimp only;rw[nGb hd hst];exact hfit25,.inr ⟨rfl,by dsimp only;rw[nGb hd hst];dsimp only;rw[hb1];exact if_pos z2⟩⟩ z2 ⟨rfl,rfl,rfl,rfl,by rw[nGb hd hst];rfl,rfl,rfl,rfl,trivial⟩ (by rw[nGb hd hst];rfl) rfl zS
  intro hc3;refine zpg ?_;refine PJ.again (((Rw.row b25 cp25 sp25,bst),true),k+1) ⟨by dsimp only;omega,hf25.elim (λh=>Rw.Fr_at hrf h) (λh=>.inr h),by dsimp only;rw[nGb hd hst];exact hfit25,.inr ⟨rfl,by dsimp only;rw[nGb hd hst];dsimp only;rw[hb1];exact if_neg z2⟩⟩ z2 ⟨rfl,rfl,rfl,rfl,by rw[nGb hd hst];rfl,rfl,rfl,rfl,trivial⟩ (by rw[nGb hd hst];rfl) rfl zS
 intro hc1;refine B 7 ?_;refine rv rfl rfl rfl (RV.re (v':=.agg (cdA bst)) (ldWAw_r (i:=0) rfl isAgg104 sizeOf104 rfl rfl) (rfl)) ?_;refine B 1 ?_;refine zff ?_;refine B 4 ?_;have hke:k=ds.length:=by omega
 rw[hke]at hbst;have hwI:=wn_I hmap (λd hd=>(hds d hd).1);refine retG (.inl rfl) results50 (RS.wA (i:=0) rfl isAgg104 sizeOf104 rfl (apo rfl) (RS.t rfl RS.n)) λW hS=>⟨(bst,okb),rfl,?_,?_⟩
 ·exact(hS.links w A3).below (λk hk hx=>by rcases hx with hx|hx;(exact hx);simp only[adp,aEo,abp,asp,ayo,afo,a0o,azo,aeo,aCo,or_false]at hx;rcases hx with hx|hx;(omega);(have:=Rw.mem_ge hrge hx;omega))
 rcases hbst with⟨h1,h2,_⟩|⟨h1,h2⟩
 ·exact .inr ⟨h1,by rw[hwI,h2];rfl⟩
 have hbm:=(n8e (λd:Cd=>d.c) ds ds.length).2 bst h2;have hd9:=hds bst hbm;exact .inl ⟨h1,by rw[hwI,h2];rfl,hd9.1,hd9.2.1.toG hd9.2.2 hS A0 (abo _) (λb hb hb2=>⟨λh=>h,z4c⟩),hd9.2.2.mono zG⟩
end Px
