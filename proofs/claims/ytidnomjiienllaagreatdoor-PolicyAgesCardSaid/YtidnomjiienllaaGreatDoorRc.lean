/- The row of PolicyAges, lifted. No condition beyond those that each theorem states. -/
import Derived.Test.YtidnomjiienllaaGreatDoorRb
import Derived.SevenTiedAt
set_option linter.unusedSimpArgs false
set_option linter.unusedVariables false
set_option linter.unusedSectionVars false
namespace Go.Proofs.YtidnomjiienllaaGreatDoor
open Go Go.ChangeShapes Go.WideShapes Go.ChangeAt Go.RowKit Px
def wit:Array Value:=#[.agg #[.slice none 0 0,.slice none 0 0,.slice none 0 0,.slice none 0 0,.slice none 0 0,.slice none 0 0,.slice none 0 0,.slice none 0 0],.agg #[.int .i64 0,.bool false,.slice none 0 0,.slice none 0 0,.int .i64 0,.int .i64 0],.slice none 0 0]
def theZ:Fx:=⟨scalL,λs xs=>tagged s xs.length (fU xs),gExp⟩
theorem theZ_ok:FxOk theZ:=⟨λ_ _=>rfl,λ_ _=>rfl,λ_ _=>rfl⟩
set_option maxRecDepth 100000 in
theorem lifted(os:Os)(started:os.Started)(H:Type)(enc:TypeId×Value->H):ReturnsInHanded {} Tryz.checked os 3 .any (λw args=>(Rows.policyAgesSpec.pre enc Tryz.prog Tryz.f3 [] false w args/\laidMetH Tryz.prog laid3 w)/\sizedMet enc Tryz.prog Tryz.f3 (OpenSpec.ofChange Rows.policyAgesSpec) false w args) (Rows.policyAgesSpec.post enc Tryz.prog Tryz.f3 false true false false):=by
 refine returnsInHanded_of_change_and (C:=Tryz.checked) (X:=λw _=>laidMetH Tryz.prog laid3 w) (λ_ _ _ hh h=>h.of_heap hh) own started (by kernel_rfl) Tryz.func3
  (ChangeSpec.witness_shaped (enc:=enc) (C:=Tryz.checked) (os:=os) (X:=λw _=>laidMetH Tryz.prog laid3 w) false (World.doorLaid Tryz.prog 62 os) wit 8 rfl (World.shaped_of_RefB (by kernel_rfl) (by kernel_rfl)) (by kernel_rfl) (by kernel_rfl) (by kernel_rfl) (door_met os _)) ?_
 intro W base args ds gs0 before hval0 hW _ _ hL _;have hval:∀(j:Nat) t v,Tryz.f3.params[j]? =some t->args[j]? =some v->Value.okWide Tryz.prog W .any base t v:=hval0;have hW':=hW;obtain⟨p,q,hA0,hV,rfl,hfz,hnd⟩:=hW;have hA:DataW.TrodAll enc Tryz.prog W 0 (λ_=>true) true Tryz.f3.params.toList args.toList ds p:=hA0;rw[Tryz.params3]at hA hval;obtain⟨v0,v1,v2,d0,d1,d2,p0,p1,p2,rfl,rfl,rfl,h0,h1,h2⟩:=trodAll_three hA;obtain⟨rfl,rfl⟩:=trodVars_none hV;have k0:=hval 0 31 v0 rfl rfl;simp only[Value.okWide,Tryz.underlying31]at k0;obtain⟨cs0,rfl,hs0,_⟩:=k0;obtain⟨m0,q0⟩:=h0;obtain⟨fa,fos,fc,la,ms,lc,ia,its,ic,rx,gs,js,rfl,hfl,hms,hsl,hil,hits,hit,hgn,hgs,hgo,hjn,hjs,hfs⟩:=rc_in (hs0.trans sz31) q0;have h0:DataW.Trod enc Tryz.prog W 0 (λ_=>true) true 31 (.agg (rcA fa fos.length fc la ms.length lc ia its.length ic rx)) d0 p0:=⟨_,q0⟩;have k1:=hval 1 34 v1 rfl rfl;simp only[Value.okWide,Tryz.underlying34]at k1;obtain⟨cs1,rfl,hs1,_⟩:=k1;obtain⟨m1,q1⟩:=h1;obtain⟨p,rfl,hp⟩:=po_in (hs1.trans sz34) q1;have h1:DataW.Trod enc Tryz.prog W 0 (λ_=>true) true 34 (.agg (poC p)) d1 p1:=⟨_,q1⟩;obtain⟨m2,q2⟩:=h2;obtain⟨a2,del,cp2,e2,s2,_,_⟩:=sl_in (el:=dkA) (n:=32) (λ_=>True) (by decide) Tryz.underlying35 sz43 q2 dk_in;have k2:=hval 2 35 v2 rfl rfl;simp only[Value.okWide,Tryz.underlying35]at k2
 obtain rfl:v2= .slice a2 del.length cp2:=by
  cases v2<;>simp_all[Value.cells,Cell.okWide,Cell.ok]
 have h2:DataW.Trod enc Tryz.prog W 0 (λ_=>true) true 35 (.slice a2 del.length cp2) d2 p2:=⟨_,q2⟩;have hG:=glb_of_laid hL;have hlt:∀y∈p0++p1++p2++[],y.block<W.heap.size:=λy hy=>hW'.lt y hy;refine(law46_PolicyAges theZ_ok fa fos fc hfl ms (λc hc=>(hms c hc).1.lim) W.heap.size la lc W (Nat.le_refl _) hsl (λc hc=>(hms c hc).2) ia its ic hil hits rx gs hgn hgs hgo js hjn hjs hfs (λc hc h=>cm_good (hms c hc).1 h) (λx hx h=>it_good (hit x hx).1 h) (λx hx=>(hit x hx).2) p hp a2 del cp2 s2 hG.1 hG.2).mono λe W' ⟨he,hB⟩=>?_;subst he;have e1:Rows.policyAgesSpec.fn H ([d0,d1,d2]++[])={results:=[.lit (.bool true)],args:=[d0,d1,d2]}:=by simp[Rows.policyAgesSpec]
 refine⟨_,rfl,_,_,_,[],p0++(p1++p2),[],hW',?_,?_,?_,hB.frame _,λh=>by cases h⟩
 ·rw[e1];exact trodAll_mk1 (shut_bool Tryz.underlying4 true)
 ·rw[e1];exact trodAll_mk3 (Below.trod laidOut (by kernel_rfl) (of_decide_eq_true (by kernel_rfl)) h0 hB (λy hy=>hlt y (by simp[hy]))) (Below.trod laidOut (by kernel_rfl) (of_decide_eq_true (by kernel_rfl)) h1 hB (λy hy=>hlt y (by simp[hy]))) (Below.trod laidOut (by kernel_rfl) (of_decide_eq_true (by kernel_rfl)) h2 hB (λy hy=>hlt y (by simp[hy])))
 rw[e1];rfl
end Go.Proofs.YtidnomjiienllaaGreatDoor
