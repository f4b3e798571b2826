/- What the listed variables give: the three tables. No conditions. -/
import Derived.Test.YtodpaegknpbomaaGreatDoorRa
import Derived.Test.YtodpaegknpbomaaGreatDoorTie
import Derived.Test.YtodpaegknpbomaaGreatDoorCards
import Derived.Stop.LaidTwo
namespace Go.Proofs.YtodpaegknpbomaaGreatDoor
open Go Go.ChangeShapes Go.WideShapes Go.ChangeAt Go.RowKit Px
theorem own:ownKnob Tryz.prog.godebug=none:=by kernel_rfl
theorem laidOut:laidOutB Tryz.prog=true:=by kernel_rfl
abbrev laid3:List (String×DataW Unit):=Rows.knowledgeSoundRow.laid
def lname (i:Nat):String:=(laid3[i]?.map (·.1)).getD ""
theorem gN0:Tryz.prog.globalNamed (lname 0)=some 3:=by kernel_rfl
theorem tN0:(Tryz.prog.globals[3]?).map (·.type)=some 373:=by kernel_rfl
theorem gN1:Tryz.prog.globalNamed (lname 1)=some 5:=by kernel_rfl
theorem tN1:(Tryz.prog.globals[5]?).map (·.type)=some 426:=by kernel_rfl
theorem gN4:Tryz.prog.globalNamed (lname 4)=some 2:=by kernel_rfl
theorem tN4:(Tryz.prog.globals[2]?).map (·.type)=some 283:=by kernel_rfl
theorem gN5:Tryz.prog.globalNamed (lname 5)=some 0:=by kernel_rfl
theorem tN5:(Tryz.prog.globals[0]?).map (·.type)=some 173:=by kernel_rfl
theorem gN6:Tryz.prog.globalNamed (lname 6)=some 1:=by kernel_rfl
theorem tN6:(Tryz.prog.globals[1]?).map (·.type)=some 173:=by kernel_rfl
theorem door_met(os:Os)(args:Array Value):laidMetH Tryz.prog laid3 ((World.doorLaid Tryz.prog 86 os).forCall (λ_ _=>0) ⟨#[],args,[]⟩).memory:=
 laidMetH_of_parts3 (fuel:=8) (laidMet_of_run' 8 (by kernel_rfl) (by kernel_rfl)) (by kernel_rfl) (by kernel_rfl)
theorem cU:Tryz.prog.cellsOf 303=1:=by kernel_rfl
theorem c8:Tryz.prog.cellsOf 373=8:=by kernel_rfl
theorem c64:Tryz.prog.cellsOf 426=64:=by kernel_rfl
theorem cS:Tryz.prog.cellsOf 9=1:=by kernel_rfl
theorem cL:Tryz.prog.cellsOf 283=3:=by kernel_rfl
theorem cE:Tryz.prog.cellsOf 505=1:=by kernel_rfl
def nsStart:List Int:=[1779033703,3144134277,1013904242,2773480762,1359893119,2600822924,528734635,1541459225]
def nsNumbers:List Int:=[1116352408,1899447441,3049323471,3921009573,961987163,1508970993,2453635748,2870763221,3624381080,310598401,607225278,1426881987,1925078388,2162078206,2614888103,3248222580,3835390401,4022224774,264347078,604807628,770255983,1249150122,1555081692,1996064986,2554220882,2821834349,2952996808,3210313671,3336571891,3584528711,113926993,338241895,666307205,773529912,1294757372,1396182291,1695183700,1986661051,2177026350,2456956037,2730485921,2820302411,3259730800,3345764771,3516065817,3600352804,4094571909,275423344,430227734,506948616,659060556,883997877,958139571,1322822218,1537002063,1747873779,1955562222,2024104815,2227730452,2361852424,2428436474,2756734187,3204031479,3329325298]
theorem var_heap{W:World}{n:String}{g:Nat}{cs:Array Value}(hg:Tryz.prog.globalNamed n=some g)(h:W.var? Tryz.prog n=some cs):∃t fr,W.heap[g]? =some (.cells cs t fr):=by
 simp only[World.var?,hg,Option.bind_some]at h;split at h
 ·rename_i a b c e;obtain rfl:=Option.some.inj h;exact⟨_,_,e⟩
 cases h
theorem eqStart:(nsStart.map λx=>Value.int .u32 x).toArray=S8.init.cells:=by kernel_rfl
theorem eqNumbers:(nsNumbers.map λx=>Value.int .u32 x).toArray=cf 64 (λi=>u32 (kk i)):=by kernel_rfl
theorem arr_strs{P:Program}{w:World}{base:Nat}{t e n fuel:Nat}{cs:List Value}{ss:List (List UInt8)}{ps:List MemPlace}{H:Type}{enc:TypeId×Value->H}{sp:Nat->Bool}{held:Bool}(ht:P.underlying t=some (.array n e))(he:P.underlying e=some .string)(hc:P.cellsOf e=1)(hn:P.cellsOf t=n)(h:DataW.trod enc P w base sp held fuel t cs=some (.agg (ss.map λx=>.lit (.string x)),ps)):cs=ss.map λx=>.string ⟨x.toArray⟩:=by
 obtain⟨xs,m,rfl,hx,hl,hxl,hel⟩:=DataW.trod_array ht h;simp only[Prod.mk.injEq,DataW.agg.injEq]at hx;have hlen:ss.length=n:=by have:=congrArg List.length hx.1;simpa[hxl]using this
 apply List.ext_getElem (by rw[hl,hn];simp[hlen]);intro i h1 h2;have hi:i<n:=by rw[hl,hn]at h1;exact h1
 have e1:=hel i hi;rw[hc]at e1;have hxi:i<xs.length:=by omega
 rw[List.getElem?_eq_getElem hxi]at e1;obtain⟨q,e2,e3,_⟩:=DataW.trod_string he e1;have e4:(xs.map (·.1))[i]'(by simpa using hxi)= .lit (.string q.data.toList):=by simp[e3]
 have e5:(xs.map (·.1))[i]'(by simpa using hxi)= .lit (.string (ss[i]'(by omega))):=by
  have:(xs.map (·.1))=ss.map λx=>.lit (.string x):=hx.1.symm;simp only[this,List.getElem_map]
 rw[e4]at e5;have e6:q.data.toList=ss[i]'(by omega):=by injection e5 with e7;injection e7
 have e8:cs[i]= .string q:=by
  have:=congrArg (λl=>l[0]?) e2;simp[List.getElem?_drop]at this;rw[List.getElem?_eq_getElem h1]at this;exact Option.some.inj this
 rw[e8,List.getElem_map,<-e6]
def nmE:String:= "errors.errorString"
def esName:String:=match(Rows.laid_chartroom_grants_errGroup:DataW Unit)with
 |DataW.iface n _=>n
 |_=>nmE
theorem row_es(u:TypeId)(h:Tryz.prog.typeName? 3 u=some esName):u=472:=by
 refine typeName_ptr_named (P:=Tryz.prog) (nm:=nmE) ?_ ?_ ?_ u ?_
 ·generalize hx:HAppend.hAppend _ nmE=x;obtain rfl:x=esName:=hx.symm.trans (by kernel_rfl)
  kernel_rfl
 ·kernel_rfl
 ·decide
 exact h.trans (congrArg some (by kernel_rfl))
theorem all_of_laid{W:World}(h:laidMetH Tryz.prog laid3 W):Glb W/\Lab W/\∃a0 a1,Sen W a0 a1:=by
 rw[MakeChecks.laidMetH_plain _ _ _ (by kernel_rfl)]at h;have h5:=h.tail.tail.tail.tail.tail;obtain⟨ps,⟨g0,t0,cs0,f0,p0,q0,hg0,ht0,hv0,hd0,⟨g1,t1,cs1,f1,p1,q1,hg1,ht1,hv1,hd1,⟨g2,t2,cs2,f2,p2,q2,hg2,ht2,hv2,hd2,⟨g3,t3,cs3,f3,p3,q3,hg3,ht3,hv3,hd3,⟨g4,t4,cs4,f4,p4,q4,hg4,ht4,hv4,hd4,_,e4⟩,e3⟩,e2⟩,e1⟩,e0⟩,_,_⟩:=h;obtain rfl:=Option.some.inj (gN0.symm.trans hg0);obtain rfl:=Option.some.inj (tN0.symm.trans ht0);obtain rfl:=Option.some.inj (gN1.symm.trans hg1);obtain rfl:=Option.some.inj (tN1.symm.trans ht1);obtain rfl:=Option.some.inj (gN4.symm.trans hg4);obtain rfl:=Option.some.inj (tN4.symm.trans ht4);have e0_:=arr_ints (ns:=nsStart) Tryz.underlying373 Tryz.underlying303 cU c8 hd0;have e1_:=arr_ints (ns:=nsNumbers) Tryz.underlying426 Tryz.underlying303 cU c64 hd1;have e4_:=arr_strs (ss:=[[105,110,105,116],[99,111,109,109,105,116],[99,104,105,108,100]]) Tryz.underlying283 Tryz.underlying9 cS cL hd4;obtain⟨a0,a1,_,_,c5,c6,t5_,t6_,hv5,hv6,_,_,_,_,_,_,hne,hb0,hb1⟩:=laid_sentinels2 (tp:=472) (te:=505) (ts:=9) h5 gN5 tN5 gN6 tN6 Tryz.underlying173 row_es Tryz.underlying472 Tryz.underlying505 rfl rfl Tryz.underlying9 cE cS;obtain⟨u0,r0,k0⟩:=var_heap hg0 hv0;obtain⟨u1,r1,k1⟩:=var_heap hg1 hv1;obtain⟨u4,r4,k4⟩:=var_heap hg4 hv4;obtain⟨u5,r5,k5⟩:=var_heap gN5 hv5
 obtain⟨u6,r6,k6⟩:=var_heap gN6 hv6;have c0:cs0=S8.init.cells:=by rw[<-eqStart,<-e0_]
 have c1:cs1=cf 64 (λi=>u32 (kk i)):=by rw[<-eqNumbers,<-e1_]
 have c4:cs4=#[.string ⟨#[105,110,105,116]⟩,.string ⟨#[99,111,109,109,105,116]⟩,.string ⟨#[99,104,105,108,100]⟩]:=by
  have:=congrArg List.toArray e4_;simpa using this
 rw[c0]at k0;rw[c1]at k1;rw[c4]at k4;exact⟨⟨⟨_,_,k0⟩,_,_,k1⟩,⟨_,_,k4⟩,a0,a1,⟨_,_,k5⟩,⟨_,_,k6⟩,⟨_,_,hb0⟩,⟨_,_,hb1⟩,hne⟩
end Go.Proofs.YtodpaegknpbomaaGreatDoor
