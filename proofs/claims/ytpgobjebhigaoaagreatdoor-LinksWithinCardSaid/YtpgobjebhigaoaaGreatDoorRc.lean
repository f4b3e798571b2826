/- The row of LinksWithin, lifted. No condition beyond those stated. -/
import Derived.Test.YtpgobjebhigaoaaGreatDoorRb
import Derived.SevenTiedAt
set_option linter.unusedSimpArgs false
set_option linter.unusedVariables false
set_option linter.unusedSectionVars false
set_option linter.unnecessarySimpa false
namespace Go.Proofs.YtpgobjebhigaoaaGreatDoor
open Go Go.ChangeShapes Go.WideShapes Go.ChangeAt Go.RowKit Px
def wit:Array Value:=#[.agg #[.slice none 0 0,.slice none 0 0,.slice none 0 0,.slice none 0 0,.slice none 0 0,.slice none 0 0,.slice none 0 0,.slice none 0 0],.slice none 0 0,.agg #[.int .i64 0,.int .i64 0,.int .i64 0,.int .i64 0,.int .i64 0,.bool false,.int .u8 0,.int .u8 0,.int .u8 0,.int .u8 0,.int .u8 0,.int .u8 0,.int .u8 0,.int .u8 0,.int .u8 0,.int .u8 0,.int .u8 0,.int .u8 0,.int .u8 0,.int .u8 0,.int .u8 0,.int .u8 0,.int .u8 0,.int .u8 0,.int .u8 0,.int .u8 0,.int .u8 0,.int .u8 0,.int .u8 0,.int .u8 0,.int .u8 0,.int .u8 0,.int .u8 0,.int .u8 0,.int .u8 0,.int .u8 0,.int .u8 0,.int .u8 0,.int .i64 0,.int .i64 0]]
def theZ:Fx:=⟨scalL,λs xs=>tagged s xs.length (fU xs),gExp⟩
theorem theZ_ok:FxOk theZ:=⟨λ_ _=>rfl,λ_ _=>rfl,λ_ _=>rfl⟩
set_option maxRecDepth 100000 in
theorem lifted(os:Os)(started:os.Started)(H:Type)(enc:TypeId×Value->H):ReturnsInHanded {} Tryz.checked os 3 .any (λw args=>(Rows.linksWithinSpec.pre enc Tryz.prog Tryz.f3 [] false w args/\laidMetH Tryz.prog laid3 w)/\sizedMet enc Tryz.prog Tryz.f3 (OpenSpec.ofChange Rows.linksWithinSpec) false w args) (Rows.linksWithinSpec.post enc Tryz.prog Tryz.f3 false true false false):=by
 refine returnsInHanded_of_change_and (C:=Tryz.checked) (X:=λw _=>laidMetH Tryz.prog laid3 w) (λ_ _ _ hh h=>h.of_heap hh) own started (by kernel_rfl) Tryz.func3
  (ChangeSpec.witness_shaped (enc:=enc) (C:=Tryz.checked) (os:=os) (X:=λw _=>laidMetH Tryz.prog laid3 w) false (World.doorLaid Tryz.prog 38 os) wit 8 rfl (World.shaped_of_RefB (by kernel_rfl) (by kernel_rfl)) (by kernel_rfl) (by kernel_rfl) (by kernel_rfl) (door_met os _)) ?_
 intro W base args ds gs0 before hval0 hW _ _ hL _;have hval:∀(j:Nat) t v,Tryz.f3.params[j]? =some t->args[j]? =some v->Value.okWide Tryz.prog W .any base t v:=hval0;have hW':=hW;obtain⟨p,q,hA0,hV,rfl,hfz,hnd⟩:=hW;have hA:DataW.TrodAll enc Tryz.prog W 0 (λ_=>true) true Tryz.f3.params.toList args.toList ds p:=hA0;rw[Tryz.params3]at hA hval;obtain⟨v0,v1,v2,d0,d1,d2,p0,p1,p2,rfl,rfl,rfl,h0,h1,h2⟩:=trodAll_three hA;obtain⟨rfl,rfl⟩:=trodVars_none hV;have k0:=hval 0 31 v0 rfl rfl;simp only[Value.okWide,Tryz.underlying31]at k0;obtain⟨cs0,rfl,hs0,_⟩:=k0;obtain⟨m0,q0⟩:=h0;obtain⟨s0,rfl,hin,hfo,hcs,hcm,hlk,hfx⟩:=rc_in (hs0.trans sz31) q0;have h0:DataW.Trod enc Tryz.prog W 0 (λ_=>true) true 31 (.agg (rdA s0)) d0 p0:=⟨_,q0⟩;obtain⟨m1,q1⟩:=h1;obtain⟨pa,pls,pc,e1,hpl,_,_⟩:=sl_in (el:=plA) (n:=5) (λ_=>True) (by decide) Tryz.underlying32 sz135 q1 pl_in;have k1:=hval 1 32 v1 rfl rfl;simp only[Value.okWide,Tryz.underlying32]at k1;obtain rfl:v1= .slice pa pls.length pc:=by
  cases v1<;>simp_all[Value.cells,Cell.okWide,Cell.ok]
 have h1:DataW.Trod enc Tryz.prog W 0 (λ_=>true) true 32 (.slice pa pls.length pc) d1 p1:=⟨_,q1⟩;have k2:=hval 2 38 v2 rfl rfl;simp only[Value.okWide,Tryz.underlying38]at k2;obtain⟨cs2,rfl,hs2,_⟩:=k2;obtain⟨m2,q2⟩:=h2;obtain⟨lk,rfl,hlo⟩:=lkt_in (hs2.trans sz38) q2;have h2:DataW.Trod enc Tryz.prog W 0 (λ_=>true) true 38 (.agg (lkC lk)) d2 p2:=⟨_,q2⟩;have hG:=glb_of_laid hL;have hlt:∀y∈p0++p1++p2++[],y.block<W.heap.size:=λy hy=>hW'.lt y hy;refine(law40_LinksWithin theZ_ok {s0 with pls:=pls,pa:=pa,pc:=pc} ⟨hin.cm,hin.lk,hin.fa⟩ W.heap.size W (Nat.le_refl _) ⟨hfo,hcs,hcm,hlk,hfx,hpl⟩ lk hlo hG).mono λe W' ⟨he,hB⟩=>?_;subst he;have e1:Rows.linksWithinSpec.fn H ([d0,d1,d2]++[])={results:=[.lit (.bool true)],args:=[d0,d1,d2]}:=by simp[Rows.linksWithinSpec]
 refine⟨_,rfl,_,_,_,[],p0++(p1++p2),[],hW',?_,?_,?_,hB.frame _,λh=>by cases h⟩
 ·rw[e1];exact trodAll_mk1 (shut_bool Tryz.underlying4 true)
 ·rw[e1];exact trodAll_mk3 (Below.trod laidOut (by kernel_rfl) (of_decide_eq_true (by kernel_rfl)) h0 hB (λy hy=>hlt y (by simp[hy]))) (Below.trod laidOut (by kernel_rfl) (of_decide_eq_true (by kernel_rfl)) h1 hB (λy hy=>hlt y (by simp[hy]))) (Below.trod laidOut (by kernel_rfl) (of_decide_eq_true (by kernel_rfl)) h2 hB (λy hy=>hlt y (by simp[hy])))
 rw[e1];rfl
end Go.Proofs.YtpgobjebhigaoaaGreatDoor
