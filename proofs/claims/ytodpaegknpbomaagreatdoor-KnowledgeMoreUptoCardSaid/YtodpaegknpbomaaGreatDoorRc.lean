/- The row of KnowledgeMore, lifted. No conditions. -/
import Derived.Test.YtodpaegknpbomaaGreatDoorRb
import Derived.SevenTiedAt
import Derived.Deep.DeepHandedRow
import Derived.Deep.DeepWitnessRowRef
namespace Go.Proofs.YtodpaegknpbomaaGreatDoor
open Go Go.ChangeShapes Go.WideShapes Go.ChangeAt Go.RowKit Px
def wit:Array Value:=#[.agg #[.slice none 0 0,.slice none 0 0,.slice none 0 0,.slice none 0 0,.slice none 0 0,.slice none 0 0,.slice none 0 0,.slice none 0 0],.slice none 0 0,.slice none 0 0,.slice none 0 0,.slice none 0 0,.slice none 0 0,.int .i64 0]
def theZ:Fx:=⟨scalL,λs xs=>tagged s xs.length (fU xs),gExp⟩
theorem theZ_ok:FxOk theZ:=⟨λ_ _=>rfl,λ_ _=>rfl,λ_ _=>rfl⟩
theorem bk_one{H:Type}(d:DataW H):1<=Rows.uptoBulk d:=by
 cases d with
 |lit l=>cases l<;>simp[Rows.uptoBulk]
 |_=>simp[Rows.uptoBulk]
theorem bk_part{H:Type}{d:DataW H}{l:List (DataW H)}(h:d∈l):Rows.uptoBulk d<=Rows.uptoBulkAll l:=by
 induction l with
 |nil=>cases h
 |cons x r ih=>
  simp only[Rows.uptoBulkAll];cases List.mem_cons.1 h with
  |inl e=>subst e;omega
  |inr e=>have:=ih e;omega
theorem bk_len{H:Type}(l:List (DataW H)):l.length<=Rows.uptoBulkAll l:=by
 induction l with
 |nil=>simp[Rows.uptoBulkAll]
 |cons x r ih=>have:=bk_one x;simp only[Rows.uptoBulkAll,List.length_cons];omega
theorem bk_slice{H:Type}(elems spare:List (DataW H)):elems.length<=Rows.uptoBulk (.slice elems spare):=by
 have h1:=bk_len elems;simp only[Rows.uptoBulk];omega
section
variable {H:Type} {enc:TypeId×Value->H} {W:World}
variable {x:DataW H×List MemPlace}
theorem bk_sl{t e fuel:Nat}{a:Option Addr}{n c:Nat}(ht:Tryz.prog.underlying t=some (.slice e))(h:DataW.trod enc Tryz.prog W 0 (λ_=>true) true fuel t [.slice a n c]=some x):n<=Rows.uptoBulk x.1:=by
 rcases Go.Deep.open_slice ht h with⟨e1,_⟩|⟨a',len,cap,m,nn,D,Pl,e1,_,_,_,_,e2,_⟩
 ·simp at e1;omega
 simp only[List.cons.injEq,Value.slice.injEq,and_true]at e1;rw[e2,e1.2.1];exact Nat.le_trans (by simp) (bk_slice _ _)
theorem bk_rc{fuel:Nat}{r:Rcd}(h:DataW.trod enc Tryz.prog W 0 (λ_=>true) true fuel 31 (rdA r).toList=some x):r.os.length<=Rows.uptoBulk x.1/\r.gs.length<=Rows.uptoBulk x.1/\r.xs.length<=Rows.uptoBulk x.1:=by
 obtain⟨xs,m,rfl,rfl,_,hxl,hf⟩:=DataW.trod_struct Tryz.underlying31 h;have hl8:xs.length=8:=hxl;have up:∀(i:Nat) (hi:i<xs.length),Rows.uptoBulk xs[i].1<=Rows.uptoBulk (DataW.agg (xs.map (·.1))):=λi hi=>by
  have:=bk_part (l:=xs.map (·.1)) (List.mem_map.2 ⟨xs[i],List.getElem_mem hi,rfl⟩);simp only[Rows.uptoBulk];omega
 have g1:DataW.trod enc Tryz.prog W 0 (λ_=>true) true m 23 (((rdA r).toList.drop 1).take (Tryz.prog.cellsOf 23))=xs[1]? :=hf 1 _ rfl;have g3:DataW.trod enc Tryz.prog W 0 (λ_=>true) true m 25 (((rdA r).toList.drop 3).take (Tryz.prog.cellsOf 25))=xs[3]? :=hf 3 _ rfl;have g4:DataW.trod enc Tryz.prog W 0 (λ_=>true) true m 26 (((rdA r).toList.drop 4).take (Tryz.prog.cellsOf 26))=xs[4]? :=hf 4 _ rfl;rw[sz23,List.getElem?_eq_getElem (by omega)]at g1;rw[sz25,List.getElem?_eq_getElem (by omega)]at g3;rw[sz26,List.getElem?_eq_getElem (by omega)]at g4;have k1:DataW.trod enc Tryz.prog W 0 (λ_=>true) true m 23 [.slice r.oa r.os.length r.oc]=some (xs[1]'(by omega)):=g1;have k3:DataW.trod enc Tryz.prog W 0 (λ_=>true) true m 25 [.slice r.ga r.gs.length r.gc]=some (xs[3]'(by omega)):=g3;have k4:DataW.trod enc Tryz.prog W 0 (λ_=>true) true m 26 [.slice r.ia r.xs.length r.ic]=some (xs[4]'(by omega)):=g4;have b1:=bk_sl Tryz.underlying23 k1;have b3:=bk_sl Tryz.underlying25 k3;have b4:=bk_sl Tryz.underlying26 k4;exact⟨Nat.le_trans b1 (up 1 (by omega)),Nat.le_trans b3 (up 3 (by omega)),Nat.le_trans b4 (up 4 (by omega))⟩
end
set_option maxHeartbeats 4000000 in
set_option maxRecDepth 100000 in
theorem contract(H:Type)(enc:TypeId×Value->H)(W:World)(base:Nat)(args:Array Value)(ds gs0:List (DataW H))(before:List MemPlace)(hval0:∀(j:Nat) t v,Tryz.f5.params[j]? =some t->args[j]? =some v->Value.okWide Tryz.prog W .any base t v)(hW:DataW.Whole enc Tryz.prog Tryz.f5.params.toList Rows.knowledgeMoreSpec.vars false W args.toList ds gs0 before)(hL:laidMetH Tryz.prog laid3 W)(hcond:Rows.uptoSmall H (ds++gs0)=true):Calls Tryz.prog 5 args W λe W'=>∃v,e= .returned v/\Rows.knowledgeMoreSpec.post enc Tryz.prog Tryz.f5 false true false false W args v W':=by
 have hval:∀(j:Nat) t v,Tryz.f5.params[j]? =some t->args[j]? =some v->Value.okWide Tryz.prog W .any base t v:=hval0;have hW':=hW;obtain⟨p,q,hA0,hV,rfl,hfz,hnd⟩:=hW;have hA:DataW.TrodAll enc Tryz.prog W 0 (λ_=>true) true Tryz.f5.params.toList args.toList ds p:=hA0;rw[Tryz.params5]at hA hval;obtain⟨rfl,rfl⟩:=trodVars_none hV;obtain⟨v0,z0,d0,y0,p0,o0,ha0,rfl,rfl,h0,hA⟩:=trodAll_cons hA;obtain⟨v1,z1,d1,y1,p1,o1,rfl,rfl,rfl,h1,hA⟩:=trodAll_cons hA;obtain⟨v2,z2,d2,y2,p2,o2,rfl,rfl,rfl,h2,hA⟩:=trodAll_cons hA;obtain⟨v3,z3,d3,y3,p3,o3,rfl,rfl,rfl,h3,hA⟩:=trodAll_cons hA;obtain⟨v4,z4,d4,y4,p4,o4,rfl,rfl,rfl,h4,hA⟩:=trodAll_cons hA;obtain⟨v5,z5,d5,y5,p5,o5,rfl,rfl,rfl,h5,hA⟩:=trodAll_cons hA;obtain⟨v6,z6,d6,y6,p6,o6,rfl,rfl,rfl,h6,hA⟩:=trodAll_cons hA;obtain⟨rfl,rfl,rfl⟩:=trodAll_nil hA;obtain rfl:args=#[v0,v1,v2,v3,v4,v5,v6]:=by cases args;simp_all
 have k0:=hval 0 31 v0 rfl rfl;simp only[Value.okWide,Tryz.underlying31]at k0;obtain⟨cs0,rfl,hs0,_⟩:=k0;obtain⟨m0,q0⟩:=h0;obtain⟨r,rfl,hri,hlm,hrA,hone⟩:=rc_in (hs0.trans sz31) q0;have h0:DataW.Trod enc Tryz.prog W 0 (λ_=>true) true 31 (.agg (rdA r)) d0 p0:=⟨_,q0⟩;obtain⟨m1,q1⟩:=h1;obtain⟨a1,l1,c1,e1,hsl1,hq1,hn1⟩:=sl_in (el:=seA) (n:=35) (λ_=>True) (by decide) Tryz.underlying38 sz35 q1 se_in;have k1:=hval 1 38 v1 rfl rfl;simp only[Value.okWide,Tryz.underlying38]at k1;obtain rfl:v1= .slice a1 l1.length c1:=by
  cases v1<;>simp_all[Value.cells,Cell.okWide,Cell.ok]
 have h1:DataW.Trod enc Tryz.prog W 0 (λ_=>true) true 38 (.slice a1 l1.length c1) d1 p1:=⟨_,q1⟩;obtain⟨m2,q2⟩:=h2;obtain⟨a2,l2,c2,e2,hsl2,hq2,hn2⟩:=sl_in (el:=seA) (n:=35) (λ_=>True) (by decide) Tryz.underlying38 sz35 q2 se_in;have k2:=hval 2 38 v2 rfl rfl;simp only[Value.okWide,Tryz.underlying38]at k2;obtain rfl:v2= .slice a2 l2.length c2:=by
  cases v2<;>simp_all[Value.cells,Cell.okWide,Cell.ok]
 have h2:DataW.Trod enc Tryz.prog W 0 (λ_=>true) true 38 (.slice a2 l2.length c2) d2 p2:=⟨_,q2⟩;obtain⟨m3,q3⟩:=h3;obtain⟨a3,l3,c3,e3,hsl3,hq3,hn3⟩:=sl_in (el:=grA) (n:=39) (λz=>GrIn z/\GrAt W.heap.size W z) (by decide) Tryz.underlying25 sz87 q3 gr_in;have k3:=hval 3 25 v3 rfl rfl;simp only[Value.okWide,Tryz.underlying25]at k3;obtain rfl:v3= .slice a3 l3.length c3:=by
  cases v3<;>simp_all[Value.cells,Cell.okWide,Cell.ok]
 have h3:DataW.Trod enc Tryz.prog W 0 (λ_=>true) true 25 (.slice a3 l3.length c3) d3 p3:=⟨_,q3⟩;obtain⟨m4,q4⟩:=h4;obtain⟨a4,l4,c4,e4,hsl4,hq4,hn4⟩:=sl_in (el:=irA) (n:=68) (λz=>IrGood z/\ByAt W.heap.size W z.ba z.body) (by decide) Tryz.underlying26 sz121 q4 ir_in;have k4:=hval 4 26 v4 rfl rfl;simp only[Value.okWide,Tryz.underlying26]at k4;obtain rfl:v4= .slice a4 l4.length c4:=by
  cases v4<;>simp_all[Value.cells,Cell.okWide,Cell.ok]
 have h4:DataW.Trod enc Tryz.prog W 0 (λ_=>true) true 26 (.slice a4 l4.length c4) d4 p4:=⟨_,q4⟩;obtain⟨m5,q5⟩:=h5;obtain⟨a5,l5,c5,e5,hsl5,hq5,hn5⟩:=sl_in (el:=owA) (n:=2) (λ_=>True) (by decide) Tryz.underlying23 sz71 q5 ow_in;have k5:=hval 5 23 v5 rfl rfl;simp only[Value.okWide,Tryz.underlying23]at k5;obtain rfl:v5= .slice a5 l5.length c5:=by
  cases v5<;>simp_all[Value.cells,Cell.okWide,Cell.ok]
 have h5:DataW.Trod enc Tryz.prog W 0 (λ_=>true) true 23 (.slice a5 l5.length c5) d5 p5:=⟨_,q5⟩;obtain⟨m6,q6⟩:=h6;obtain⟨n6,e6,_,_⟩:=DataW.trod_int Tryz.underlying3 q6;have k6:=hval 6 3 v6 rfl rfl;simp only[Value.okWide,Tryz.underlying3]at k6;obtain rfl:v6= .int .i64 n6:=by
  cases v6<;>simp_all[Value.cells,Cell.okWide,Cell.ok]
 have h6:DataW.Trod enc Tryz.prog W 0 (λ_=>true) true 3 (.int .i64 n6) d6 p6:=⟨_,q6⟩;obtain⟨hG,hL8,s0,s1,hse⟩:=all_of_laid hL;have hlt:∀y∈(p0++(p1++(p2++(p3++(p4++(p5++(p6++([]))))))))++[],y.block<W.heap.size:=λy hy=>hW'.lt y hy;have hbd:=of_decide_eq_true hcond;simp only[List.cons_append,List.nil_append,Rows.uptoBulkAll]at hbd;obtain⟨hb1,hb3,hb4⟩:=bk_rc q0;have hb1_:=bk_sl Tryz.underlying38 q1;have hb2_:=bk_sl Tryz.underlying38 q2;have hb3_:=bk_sl Tryz.underlying25 q3;have hb4_:=bk_sl Tryz.underlying26 q4;have hb5_:=bk_sl Tryz.underlying23 q5;dsimp only at hb1 hb3 hb4 hb1_ hb2_ hb3_ hb4_ hb5_;refine(law_more theZ_ok r hri hlm W.heap.size W (Nat.le_refl _) hrA hG hL8 s0 s1 hse a1 a2 a5 a3 a4 l1 l2 l5 l3 l4 c1 c2 c5 c3 c4 (by omega) (by omega) (by omega) (by omega) (by omega) hsl1 hsl2 hsl5 hsl3 (λg hg=>(hq3 g hg).2) (λg hg=>(hq3 g hg).1) hsl4 (λx hx=>(hq4 x hx).2) (λx hx=>(hq4 x hx).1) hone n6).mono λe W' ⟨he,hB0⟩=>?_;subst he;have hB:RowKit.Below W.heap.size W W':=⟨hB0.os,hB0.tape,hB0.output,hB0.size,hB0.block⟩;have e1:Rows.knowledgeMoreSpec.fn H ([d0,d1,d2,d3,d4,d5,d6]++[])={results:=[.lit (.bool true)],args:=[d0,d1,d2,d3,d4,d5,d6]}:=by simp[Rows.knowledgeMoreSpec]
 refine⟨_,rfl,_,_,_,[],(p0++(p1++(p2++(p3++(p4++(p5++p6)))))),[],hW',?_,?_,?_,hB.frame _,λh=>by cases h⟩
 ·rw[e1];exact trodAll_mk1 (shut_bool Tryz.underlying4 true)
 ·rw[e1];exact trodAll_cons_mk (Below.trod laidOut (by kernel_rfl) (of_decide_eq_true (by kernel_rfl)) h0 hB (λy hy=>hlt y (by simp[hy]))) (trodAll_cons_mk (Below.trod laidOut (by kernel_rfl) (of_decide_eq_true (by kernel_rfl)) h1 hB (λy hy=>hlt y (by simp[hy]))) (trodAll_cons_mk (Below.trod laidOut (by kernel_rfl) (of_decide_eq_true (by kernel_rfl)) h2 hB (λy hy=>hlt y (by simp[hy]))) (trodAll_cons_mk (Below.trod laidOut (by kernel_rfl) (of_decide_eq_true (by kernel_rfl)) h3 hB (λy hy=>hlt y (by simp[hy]))) (trodAll_cons_mk (Below.trod laidOut (by kernel_rfl) (of_decide_eq_true (by kernel_rfl)) h4 hB (λy hy=>hlt y (by simp[hy]))) (trodAll_cons_mk (Below.trod laidOut (by kernel_rfl) (of_decide_eq_true (by kernel_rfl)) h5 hB (λy hy=>hlt y (by simp[hy]))) (trodAll_mk1 (Below.trod laidOut (by kernel_rfl) (of_decide_eq_true (by kernel_rfl)) h6 hB (λy hy=>hlt y (by simp[hy])))))))))
 rw[e1];rfl
set_option maxRecDepth 100000 in
theorem lifted(os:Os)(started:os.Started)(H:Type)(enc:TypeId×Value->H)(F:Stop.Interp):ReturnsInHanded {} Tryz.checked os 5 .any ((Rows.OpenSpec.upto Rows.knowledgeMoreSpec).preRow enc Tryz.prog Tryz.f5 Rows.knowledgeMoreUptoRow.domain false Rows.knowledgeMoreUptoRow.laid) (((Rows.OpenSpec.upto Rows.knowledgeMoreSpec).at F).post enc Tryz.prog Tryz.f5 false true false false):=by
 refine returnsInHanded_of_row (C:=Tryz.checked) (s:=Rows.OpenSpec.upto Rows.knowledgeMoreSpec) own started (by kernel_rfl) Tryz.func5
  (witness_row_atRef (enc:=enc) (C:=Tryz.checked) false (World.doorLaid Tryz.prog 86 os) wit rfl (by kernel_rfl) (by kernel_rfl) (by kernel_rfl)
   (OpenSpec.preRow_of_cond 8 (x:=([.agg [.nil,.nil,.nil,.nil,.nil,.nil,.nil,.nil],.nil,.nil,.nil,.nil,.nil,.lit (.int .i64 0)],[],[])) (by kernel_rfl) (by kernel_rfl) (λk hk=>by cases hk;kernel_rfl) (by kernel_rfl) (door_met os _))) ?_
 intro W base args ds gs0 before hval0 hW _ hcond _ hL _ _;exact contract H enc W base args ds gs0 before hval0 hW hL (hcond _ rfl)
end Go.Proofs.YtodpaegknpbomaaGreatDoor
