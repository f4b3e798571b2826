/- The row of KnowledgeClosed, lifted. No conditions. -/
import Derived.Test.YtodpaegknpbomaaGreatDoorRb
import Derived.SevenTiedAt
namespace Go.Proofs.YtodpaegknpbomaaGreatDoor
open Go Go.ChangeShapes Go.WideShapes Go.ChangeAt Go.RowKit Px
def wit:Array Value:=#[.agg #[.slice none 0 0,.slice none 0 0,.slice none 0 0,.slice none 0 0,.slice none 0 0,.slice none 0 0,.slice none 0 0,.slice none 0 0],.slice none 0 0]
def theZ:Fx:=⟨scalL,λs xs=>tagged s xs.length (fU xs),gExp⟩
theorem theZ_ok:FxOk theZ:=⟨λ_ _=>rfl,λ_ _=>rfl,λ_ _=>rfl⟩
set_option maxRecDepth 100000 in
theorem lifted(os:Os)(started:os.Started)(H:Type)(enc:TypeId×Value->H):ReturnsInHanded {} Tryz.checked os 4 .any (λw args=>(Rows.knowledgeClosedSpec.pre enc Tryz.prog Tryz.f4 [] false w args/\laidMetH Tryz.prog laid3 w)/\sizedMet enc Tryz.prog Tryz.f4 (OpenSpec.ofChange Rows.knowledgeClosedSpec) false w args) (Rows.knowledgeClosedSpec.post enc Tryz.prog Tryz.f4 false true false false):=by
 refine returnsInHanded_of_change_and (C:=Tryz.checked) (X:=λw _=>laidMetH Tryz.prog laid3 w) (λ_ _ _ hh h=>h.of_heap hh) own started (by kernel_rfl) Tryz.func4
  (ChangeSpec.witness_shaped (enc:=enc) (C:=Tryz.checked) (os:=os) (X:=λw _=>laidMetH Tryz.prog laid3 w) false (World.doorLaid Tryz.prog 86 os) wit 8 rfl (World.shaped_of_RefB (by kernel_rfl) (by kernel_rfl)) (by kernel_rfl) (by kernel_rfl) (by kernel_rfl) (door_met os _)) ?_
 intro W base args ds gs0 before hval0 hW _ _ hL _;have hval:∀(j:Nat) t v,Tryz.f4.params[j]? =some t->args[j]? =some v->Value.okWide Tryz.prog W .any base t v:=hval0;have hW':=hW;obtain⟨p,q,hA0,hV,rfl,hfz,hnd⟩:=hW;have hA:DataW.TrodAll enc Tryz.prog W 0 (λ_=>true) true Tryz.f4.params.toList args.toList ds p:=hA0;rw[Tryz.params4]at hA hval;obtain⟨rfl,rfl⟩:=trodVars_none hV;obtain⟨v0,z0,d0,y0,p0,o0,ha0,rfl,rfl,h0,hA⟩:=trodAll_cons hA;obtain⟨v1,z1,d1,y1,p1,o1,rfl,rfl,rfl,h1,hA⟩:=trodAll_cons hA;obtain⟨rfl,rfl,rfl⟩:=trodAll_nil hA;obtain rfl:args=#[v0,v1]:=by cases args;simp_all
 have k0:=hval 0 31 v0 rfl rfl;simp only[Value.okWide,Tryz.underlying31]at k0;obtain⟨cs0,rfl,hs0,_⟩:=k0;obtain⟨m0,q0⟩:=h0;obtain⟨r,rfl,hri,hlm,hrA,hone⟩:=rc_in (hs0.trans sz31) q0;have h0:DataW.Trod enc Tryz.prog W 0 (λ_=>true) true 31 (.agg (rdA r)) d0 p0:=⟨_,q0⟩;obtain⟨m1,q1⟩:=h1;obtain⟨a1,l1,c1,e1,hsl1,hq1,hn1⟩:=sl_in (el:=seA) (n:=35) (λz=>SeB z) (by decide) Tryz.underlying38 sz35 q1 se_in;have k1:=hval 1 38 v1 rfl rfl;simp only[Value.okWide,Tryz.underlying38]at k1;obtain rfl:v1= .slice a1 l1.length c1:=by
  cases v1<;>simp_all[Value.cells,Cell.okWide,Cell.ok]
 have h1:DataW.Trod enc Tryz.prog W 0 (λ_=>true) true 38 (.slice a1 l1.length c1) d1 p1:=⟨_,q1⟩;obtain⟨hG,hL8,s0,s1,hse⟩:=all_of_laid hL;have hlt:∀y∈(p0++(p1++([])))++[],y.block<W.heap.size:=λy hy=>hW'.lt y hy;refine(law_closed theZ_ok r hri hlm W.heap.size W (Nat.le_refl _) hrA hG hL8 s0 s1 hse a1 l1 c1 (lim_of hn1) hsl1 hq1).mono λe W' ⟨he,hB0⟩=>?_;subst he;have hB:RowKit.Below W.heap.size W W':=⟨hB0.os,hB0.tape,hB0.output,hB0.size,hB0.block⟩;have e1:Rows.knowledgeClosedSpec.fn H ([d0,d1]++[])={results:=[.lit (.bool true)],args:=[d0,d1]}:=by simp[Rows.knowledgeClosedSpec]
 refine⟨_,rfl,_,_,_,[],(p0++p1),[],hW',?_,?_,?_,hB.frame _,λh=>by cases h⟩
 ·rw[e1];exact trodAll_mk1 (shut_bool Tryz.underlying4 true)
 ·rw[e1];exact trodAll_cons_mk (Below.trod laidOut (by kernel_rfl) (of_decide_eq_true (by kernel_rfl)) h0 hB (λy hy=>hlt y (by simp[hy]))) (trodAll_mk1 (Below.trod laidOut (by kernel_rfl) (of_decide_eq_true (by kernel_rfl)) h1 hB (λy hy=>hlt y (by simp[hy]))))
 rw[e1];rfl
end Go.Proofs.YtodpaegknpbomaaGreatDoor
