/- The sort and compact of the library at this program. No conditions. -/
import Derived.Shelf.Sort.Plain
import Derived.Shelf.Slices.In.SortNone
import Derived.Shelf.Slices.CompactI
import Derived.Shelf.SlSortCmp.NoneTotal
import Derived.Shelf.SlGeneric
import Derived.Ground.SlsfProg
import Derived.Ground.NamesProg
import Derived.Ground.Names2Prog
import Derived.Test.YtodpaegknpbomaaGreatDoorProg
set_option linter.unusedSimpArgs false
set_option linter.unusedVariables false
set_option linter.unusedSectionVars false
namespace Go.Proofs
open Go.Shelf
theorem bk {P : Program} {i : Nat} {f b : Func} (h : P.funcs[i]? = some f) (hn : (f.name == "runtime.NumGoroutine") = false := by decide) (e : f = { b with name := f.name } := by kernel_rfl) : Bears P i b := ⟨f.name, hn, h.trans (congrArg some e)⟩
def Tryz.laySort_ren : Go.Shelf.Ren := ⟨fun | 189 => 192 | 125 => 106 | 257 => 256 | 128 => 179 | 129 => 180 | 294 => 293 | 295 => 294 | 296 => 295 | 297 => 296 | 298 => 297 | 299 => 298 | 216 => 299 | 300 => 300 | 301 => 301 | 328 => 324 | 329 => 237 | 330 => 238 | 331 => 325 | 332 => 326 | 215 => 169 | 343 => 336 | n => n, fun | 28 => 55 | 3 => 3 | 46 => 222 | 0 => 0 | 51 => 303 | 53 => 233 | 4 => 4 | 183 => 297 | 182 => 296 | 131 => 104 | 5 => 5 | 9 => 9 | 218 => 379 | 222 => 383 | 228 => 431 | 229 => 432 | n => n, fun | n => n⟩
theorem Tryz.laySort : Go.Proofs.Lays.n189 Tryz.prog Tryz.laySort_ren:=by constructor<;>intros<;>kernel_rfl
def Tryz.layCompact_ren : Go.Shelf.Ren := ⟨fun | 20 => 250 | n => n, fun | 22 => 55 | 3 => 3 | 4 => 4 | 0 => 0 | n => n, fun | n => n⟩
theorem Tryz.layCompact : Go.Proofs.Lays2.n20 Tryz.prog Tryz.layCompact_ren:=by constructor<;>intros<;>kernel_rfl
def Tryz.laySM_ren : Go.Shelf.Ren := ⟨fun | 6 => 160 | 15 => 106 | 14 => 226 | 28 => 179 | 29 => 180 | 20 => 276 | 21 => 277 | 22 => 278 | 23 => 279 | 24 => 280 | 25 => 281 | 26 => 282 | 27 => 283 | 46 => 320 | 47 => 237 | 48 => 238 | 49 => 321 | 50 => 322 | 57 => 335 | n => n, fun | 22 => 48 | 24 => 131 | 25 => 282 | 3 => 3 | 39 => 222 | 0 => 0 | 53 => 303 | 55 => 233 | 4 => 4 | 46 => 297 | 45 => 296 | 50 => 104 | 5 => 5 | 9 => 9 | 66 => 379 | 70 => 383 | 76 => 431 | 77 => 432 | n => n, fun | n => n⟩
theorem Tryz.laySM : Go.Proofs.SlLaysF0.n6 Tryz.prog Tryz.laySM_ren:=by
 constructor<;>intros<;>try kernel_rfl
 exact bk Tryz.func160;exact bk Tryz.func226;exact bk Tryz.func276;exact bk Tryz.func277;exact bk Tryz.func278;exact bk Tryz.func279;exact bk Tryz.func280;exact bk Tryz.func281;exact bk Tryz.func282;exact bk Tryz.func283;exact bk Tryz.func320;exact bk Tryz.func321;exact bk Tryz.func322;exact bk Tryz.func335
def Tryz.laySX_ren : Go.Shelf.Ren := ⟨fun | 6 => 213 | 15 => 106 | 14 => 273 | 28 => 179 | 29 => 180 | 20 => 312 | 21 => 313 | 22 => 314 | 23 => 315 | 24 => 316 | 25 => 317 | 26 => 318 | 27 => 319 | 46 => 332 | 47 => 237 | 48 => 238 | 49 => 333 | 50 => 334 | 57 => 338 | n => n, fun | 22 => 54 | 24 => 99 | 25 => 361 | 3 => 3 | 39 => 222 | 0 => 0 | 53 => 303 | 55 => 233 | 4 => 4 | 46 => 297 | 45 => 296 | 50 => 104 | 5 => 5 | 9 => 9 | 66 => 379 | 70 => 383 | 76 => 431 | 77 => 432 | n => n, fun | n => n⟩
theorem Tryz.laySX : Go.Proofs.SlLaysF0.n6 Tryz.prog Tryz.laySX_ren:=by
 constructor<;>intros<;>try kernel_rfl
 exact bk Tryz.func213;exact bk Tryz.func273;exact bk Tryz.func312;exact bk Tryz.func313;exact bk Tryz.func314;exact bk Tryz.func315;exact bk Tryz.func316;exact bk Tryz.func317;exact bk Tryz.func318;exact bk Tryz.func319;exact bk Tryz.func332;exact bk Tryz.func333;exact bk Tryz.func334;exact bk Tryz.func338
def Tryz.laySC_ren : Go.Shelf.Ren := ⟨fun | 6 => 109 | 15 => 106 | 14 => 181 | 28 => 179 | 29 => 180 | 20 => 241 | 21 => 242 | 22 => 243 | 23 => 244 | 24 => 245 | 25 => 246 | 26 => 247 | 27 => 248 | 46 => 288 | 47 => 237 | 48 => 238 | 49 => 289 | 50 => 290 | 57 => 323 | n => n, fun | 22 => 162 | 24 => 159 | 25 => 227 | 3 => 3 | 39 => 222 | 0 => 0 | 53 => 303 | 55 => 233 | 4 => 4 | 46 => 297 | 45 => 296 | 50 => 104 | 5 => 5 | 9 => 9 | 66 => 379 | 70 => 383 | 76 => 431 | 77 => 432 | n => n, fun | n => n⟩
theorem Tryz.laySC : Go.Proofs.SlLaysF0.n6 Tryz.prog Tryz.laySC_ren:=by
 constructor<;>intros<;>try kernel_rfl
 exact bk Tryz.func109;exact bk Tryz.func181;exact bk Tryz.func241;exact bk Tryz.func242;exact bk Tryz.func243;exact bk Tryz.func244;exact bk Tryz.func245;exact bk Tryz.func246;exact bk Tryz.func247;exact bk Tryz.func248;exact bk Tryz.func288;exact bk Tryz.func289;exact bk Tryz.func290;exact bk Tryz.func323
def Tryz.laySS_ren : Go.Shelf.Ren := ⟨fun | 6 => 59 | 15 => 106 | 14 => 105 | 28 => 179 | 29 => 180 | 20 => 171 | 21 => 172 | 22 => 173 | 23 => 174 | 24 => 175 | 25 => 176 | 26 => 177 | 27 => 178 | 46 => 236 | 47 => 237 | 48 => 238 | 49 => 239 | 50 => 240 | 57 => 287 | n => n, fun | 22 => 38 | 24 => 35 | 25 => 150 | 3 => 3 | 39 => 222 | 0 => 0 | 53 => 303 | 55 => 233 | 4 => 4 | 46 => 297 | 45 => 296 | 50 => 104 | 5 => 5 | 9 => 9 | 66 => 379 | 70 => 383 | 76 => 431 | 77 => 432 | n => n, fun | n => n⟩
theorem Tryz.laySS : Go.Proofs.SlLaysF0.n6 Tryz.prog Tryz.laySS_ren:=by
 constructor<;>intros<;>try kernel_rfl
 exact bk Tryz.func59;exact bk Tryz.func105;exact bk Tryz.func171;exact bk Tryz.func172;exact bk Tryz.func173;exact bk Tryz.func174;exact bk Tryz.func175;exact bk Tryz.func176;exact bk Tryz.func177;exact bk Tryz.func178;exact bk Tryz.func236;exact bk Tryz.func239;exact bk Tryz.func240;exact bk Tryz.func287
end Go.Proofs
