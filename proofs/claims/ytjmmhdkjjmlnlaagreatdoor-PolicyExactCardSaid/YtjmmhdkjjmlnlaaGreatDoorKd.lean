/- Contracts of group.Scalar and of chartroomref02. No condition beyond those that each theorem states. -/
import Derived.Test.YtjmmhdkjjmlnlaaGreatDoorKc
import Derived.Test.YtjmmhdkjjmlnlaaGreatDoorProg
set_option linter.unusedSimpArgs false
set_option linter.unusedVariables false
set_option linter.unusedSectionVars false
namespace Px
open Go Go.RowKit Go.Proofs
def tScal (s : ByteArray) (n : Nat) (m : Nat → Int) : Int := 1 + foldB 2305843009213688668 (dgL (tagged s n m)) 0
theorem tagged_byt (s : ByteArray) (n : Nat) (m : Nat → Int) : Byt (tagged s n m) := sha_byt _ _
/-- chartroom/group.Scalar -/
theorem group_Scalar (s : ByteArray) (n : Nat) (m : Nat → Int) (bb off c t t2 t3 : Nat) (fr fr2 fr3 : Nat × Nat) (cs : Array Value) (hs0 : s.size < 1000) (hc : n ≤ c) (hn : n < 1000000000000) (w : World) (hbb : w.heap[bb]? = some (.cells cs t fr)) (hoff : off + n ≤ cs.size) (hm : ∀ i, i < n → cs[off + i]? = some (.int .u8 (m i))) (hg2 : w.heap[0]? = some (.cells S8.init.cells t2 fr2)) (hg : w.heap[1]? = some (.cells (cf 64 (fun i => u32 (kk i))) t3 fr3)) :
    Calls Tryz.prog 96 #[.string s, .slice (some ⟨bb, off, none⟩) n c] w (Ret w (.int .i64 (tScal s n m))) := by
  have hB := tagged_byt s n m
  have hbd := foldB_bd 2305843009213688668 (by decide) (dgL (tagged s n m)) 0 (by decide) (by decide)
  refine enter (vs := [_, _]) Tryz.func96 rfl Tryz.ntmps96 rfl ?_
  refine CJ.seq ?_
  refine CJ.region ?_
  refine rv rfl rfl rfl (asg_r rfl) ?_
  refine OJ.done ?_
  refine PJ.next ?_
  refine CJ.seq ?_
  refine CJ.region ?_
  refine rv rfl rfl rfl (mv_r rfl) ?_
  refine rv rfl rfl rfl (mv_r rfl) ?_
  refine call Tryz.call19 rfl rfl rfl (fun W hS => digest_Tagged s n m bb off c _ _ _ _ _ _ cs hs0 hc hn W (hS.old (.head _) hbb (fun h => h) trivial) hoff hm (hS.old (.head _) hg2 (fun h => h) trivial) (hS.old (.head _) hg (fun h => h) trivial)) ?_
  refine call Tryz.call124 rfl rfl rfl (fun W hS => group_rest _ hB _ (by decide) (by decide) W) ?_
  refine rv rfl rfl rfl (cvtI_r Tryz.underlying148 Tryz.underlying3 rfl (by omega) (by omega)) ?_
  refine rv rfl rfl rfl (addI_r rfl rfl (by omega) (by omega)) ?_
  refine rv rfl rfl rfl (asg_r rfl) ?_
  refine OJ.done ?_
  refine PJ.next ?_
  refine CJ.ret ?_
  refine retV Tryz.results96 rfl (.head _) ?_
  rfl
end Px
namespace Px
open Go Go.RowKit Go.Proofs
end Px
namespace Px
open Go Go.RowKit Go.Proofs
end Px
namespace Px
open Go Go.RowKit Go.Proofs
def outC (s : S8) (i : Nat) : Array Value := cf 32 (fun k => .int .u8 (if k < i then outB s k else 0))
end Px
namespace Px
open Go Go.RowKit Go.Proofs
end Px
