/- What the listed variables give: the three tables. No conditions. -/
import Derived.Test.YtjhfonpoebkgeaaGreatDoorRa
import Derived.Test.YtjhfonpoebkgeaaGreatDoorTie
import Derived.Test.YtjhfonpoebkgeaaGreatDoorCards
namespace Go.Proofs.YtjhfonpoebkgeaaGreatDoor
open Go Go.ChangeShapes Go.WideShapes Go.ChangeAt Go.RowKit Px
theorem own:ownKnob Tryz.prog.godebug=none:=by kernel_rfl
theorem laidOut:laidOutB Tryz.prog=true:=by kernel_rfl
abbrev laid3:List (String×DataW Unit):=Rows.linksAcceptedSpecRow.laid
def lname (i:Nat):String:=(laid3[i]?.map (·.1)).getD ""
theorem gStart:Tryz.prog.globalNamed (lname 0)=some 2:=by kernel_rfl
theorem gNumbers:Tryz.prog.globalNamed (lname 1)=some 3:=by kernel_rfl
theorem door_met(os:Os)(args:Array Value):laidMetH Tryz.prog laid3 ((World.doorLaid Tryz.prog 38 os).forCall (λ_ _=>0) ⟨#[],args,[]⟩).memory:=
 laidMetH_of_parts3 (fuel:=8) (laidMet_of_run' 8 (by kernel_rfl) (by kernel_rfl)) (by kernel_rfl) (by kernel_rfl)
theorem tStart:(Tryz.prog.globals[2]?).map (·.type)=some 288:=by kernel_rfl
theorem tNumbers:(Tryz.prog.globals[3]?).map (·.type)=some 335:=by kernel_rfl
theorem cU:Tryz.prog.cellsOf 287=1:=by kernel_rfl
theorem c8:Tryz.prog.cellsOf 288=8:=by kernel_rfl
theorem c64:Tryz.prog.cellsOf 335=64:=by kernel_rfl
def nsStart:List Int:=[1779033703,3144134277,1013904242,2773480762,1359893119,2600822924,528734635,1541459225]
def nsNumbers:List Int:=[1116352408,1899447441,3049323471,3921009573,961987163,1508970993,2453635748,2870763221,3624381080,310598401,607225278,1426881987,1925078388,2162078206,2614888103,3248222580,3835390401,4022224774,264347078,604807628,770255983,1249150122,1555081692,1996064986,2554220882,2821834349,2952996808,3210313671,3336571891,3584528711,113926993,338241895,666307205,773529912,1294757372,1396182291,1695183700,1986661051,2177026350,2456956037,2730485921,2820302411,3259730800,3345764771,3516065817,3600352804,4094571909,275423344,430227734,506948616,659060556,883997877,958139571,1322822218,1537002063,1747873779,1955562222,2024104815,2227730452,2361852424,2428436474,2756734187,3204031479,3329325298]
theorem var_heap{W:World}{n:String}{g:Nat}{cs:Array Value}(hg:Tryz.prog.globalNamed n=some g)(h:W.var? Tryz.prog n=some cs):∃t fr,W.heap[g]? =some (.cells cs t fr):=by
 simp only[World.var?,hg,Option.bind_some]at h
 grind
theorem eqStart:(nsStart.map λx=>Value.int .u32 x).toArray=S8.init.cells:=by kernel_rfl
theorem eqNumbers:(nsNumbers.map λx=>Value.int .u32 x).toArray=cf 64 (λi=>u32 (kk i)):=by kernel_rfl
theorem glb_of_laid{W:World}(h:laidMetH Tryz.prog laid3 W):Glb W:=by
 rw[MakeChecks.laidMetH_plain _ _ _ (by kernel_rfl)]at h;obtain⟨ps,⟨g0,t0,cs0,f0,p0,q0,hg0,ht0,hv0,hd0,⟨g1,t1,cs1,f1,p1,q1,hg1,ht1,hv1,hd1,_,_⟩,_⟩,_,_⟩:=h;obtain rfl:=Option.some.inj (gStart.symm.trans hg0);obtain rfl:=Option.some.inj (gNumbers.symm.trans hg1);obtain rfl:=Option.some.inj (tStart.symm.trans ht0);obtain rfl:=Option.some.inj (tNumbers.symm.trans ht1);have e0:=arr_ints (ns:=nsStart) Tryz.underlying288 Tryz.underlying287 cU c8 hd0;have e1:=arr_ints (ns:=nsNumbers) Tryz.underlying335 Tryz.underlying287 cU c64 hd1;obtain⟨u0,r0,k0⟩:=var_heap hg0 hv0;obtain⟨u1,r1,k1⟩:=var_heap hg1 hv1;have a0:cs0=S8.init.cells:=by rw[<-eqStart,<-e0]
 have a1:cs1=cf 64 (λi=>u32 (kk i)):=by rw[<-eqNumbers,<-e1]
 rw[a0]at k0;rw[a1]at k1;exact⟨⟨_,_,k0⟩,_,_,k1⟩
end Go.Proofs.YtjhfonpoebkgeaaGreatDoor
