/- The sort and compact of the library at this program. No conditions. -/
import Derived.Shelf.Sort.Plain
import Derived.Shelf.Slices.In.SortNone
import Derived.Shelf.Slices.CompactI
import Derived.Shelf.SlSortCmp.NoneTotal
import Derived.Shelf.Small.Strs
import Derived.Shelf.SlGeneric
import Derived.Ground.SlsfProg
import Derived.Ground.NamesProg
import Derived.Ground.Names2Prog
import Derived.Test.YtjhfonpoebkgeaaGreatDoorProg
set_option linter.unusedSimpArgs false
set_option linter.unusedVariables false
set_option linter.unusedSectionVars false
namespace Go.Proofs
open Go.Shelf
theorem bk {P : Program} {i : Nat} {f b : Func} (h : P.funcs[i]? = some f) (hn : (f.name == "runtime.NumGoroutine") = false := by decide) (e : f = { b with name := f.name } := by kernel_rfl) : Bears P i b := ⟨f.name, hn, h.trans (congrArg some e)⟩
def Tryz.laySort_ren : Go.Shelf.Ren := ⟨fun | 189 => 99 | 125 => 144 | 257 => 143 | 128 => 207 | 129 => 185 | 294 => 198 | 295 => 199 | 296 => 200 | 297 => 201 | 298 => 202 | 299 => 203 | 216 => 204 | 300 => 205 | 301 => 206 | 328 => 249 | 329 => 250 | 330 => 251 | 331 => 252 | 332 => 253 | 215 => 254 | 343 => 288 | n => n, fun | 28 => 96 | 3 => 3 | 46 => 224 | 0 => 0 | 51 => 287 | 53 => 161 | 4 => 4 | 183 => 296 | 182 => 295 | 131 => 191 | 5 => 5 | 9 => 9 | 218 => 340 | 222 => 344 | 228 => 364 | 229 => 365 | n => n, fun | n => n⟩
theorem Tryz.laySort : Go.Proofs.Lays.n189 Tryz.prog Tryz.laySort_ren := by constructor <;> intros <;> kernel_rfl
def Tryz.layCompact_ren : Go.Shelf.Ren := ⟨fun | 20 => 100 | n => n, fun | 22 => 96 | 3 => 3 | 4 => 4 | 0 => 0 | n => n, fun | n => n⟩
theorem Tryz.layCompact : Go.Proofs.Lays2.n20 Tryz.prog Tryz.layCompact_ren := by constructor <;> intros <;> kernel_rfl
def Tryz.laySM_ren : Go.Shelf.Ren := ⟨fun | 6 => 310 | 15 => 144 | 14 => 349 | 28 => 207 | 29 => 185 | 20 => 370 | 21 => 371 | 22 => 372 | 23 => 373 | 24 => 374 | 25 => 375 | 26 => 376 | 27 => 377 | 46 => 401 | 47 => 250 | 48 => 251 | 49 => 402 | 50 => 403 | 57 => 413 | n => n, fun | 22 => 81 | 24 => 156 | 25 => 380 | 3 => 3 | 39 => 224 | 0 => 0 | 53 => 287 | 55 => 161 | 4 => 4 | 46 => 296 | 45 => 295 | 50 => 191 | 5 => 5 | 9 => 9 | 66 => 340 | 70 => 344 | 76 => 364 | 77 => 365 | n => n, fun | n => n⟩
theorem Tryz.laySM : Go.Proofs.SlLaysF0.n6 Tryz.prog Tryz.laySM_ren := by
  constructor <;> intros <;> try kernel_rfl
  exact bk Tryz.func310; exact bk Tryz.func349; exact bk Tryz.func370; exact bk Tryz.func371; exact bk Tryz.func372; exact bk Tryz.func373; exact bk Tryz.func374; exact bk Tryz.func375; exact bk Tryz.func376; exact bk Tryz.func377; exact bk Tryz.func401; exact bk Tryz.func402; exact bk Tryz.func403; exact bk Tryz.func413
def Tryz.laySC_ren : Go.Shelf.Ren := ⟨fun | 6 => 313 | 15 => 144 | 14 => 350 | 28 => 207 | 29 => 185 | 20 => 378 | 21 => 379 | 22 => 380 | 23 => 381 | 24 => 382 | 25 => 383 | 26 => 384 | 27 => 385 | 46 => 404 | 47 => 250 | 48 => 251 | 49 => 405 | 50 => 406 | 57 => 414 | n => n, fun | 22 => 347 | 24 => 232 | 25 => 382 | 3 => 3 | 39 => 224 | 0 => 0 | 53 => 287 | 55 => 161 | 4 => 4 | 46 => 296 | 45 => 295 | 50 => 191 | 5 => 5 | 9 => 9 | 66 => 340 | 70 => 344 | 76 => 364 | 77 => 365 | n => n, fun | n => n⟩
theorem Tryz.laySC : Go.Proofs.SlLaysF0.n6 Tryz.prog Tryz.laySC_ren := by
  constructor <;> intros <;> try kernel_rfl
  exact bk Tryz.func313; exact bk Tryz.func350; exact bk Tryz.func378; exact bk Tryz.func379; exact bk Tryz.func380; exact bk Tryz.func381; exact bk Tryz.func382; exact bk Tryz.func383; exact bk Tryz.func384; exact bk Tryz.func385; exact bk Tryz.func404; exact bk Tryz.func405; exact bk Tryz.func406; exact bk Tryz.func414
def Tryz.laySX_ren : Go.Shelf.Ren := ⟨fun | 6 => 340 | 15 => 144 | 14 => 363 | 28 => 207 | 29 => 185 | 20 => 392 | 21 => 393 | 22 => 394 | 23 => 395 | 24 => 396 | 25 => 397 | 26 => 398 | 27 => 399 | 46 => 410 | 47 => 250 | 48 => 251 | 49 => 411 | 50 => 412 | 57 => 416 | n => n, fun | 22 => 95 | 24 => 271 | 25 => 396 | 3 => 3 | 39 => 224 | 0 => 0 | 53 => 287 | 55 => 161 | 4 => 4 | 46 => 296 | 45 => 295 | 50 => 191 | 5 => 5 | 9 => 9 | 66 => 340 | 70 => 344 | 76 => 364 | 77 => 365 | n => n, fun | n => n⟩
theorem Tryz.laySX : Go.Proofs.SlLaysF0.n6 Tryz.prog Tryz.laySX_ren := by
  constructor <;> intros <;> try kernel_rfl
  exact bk Tryz.func340; exact bk Tryz.func363; exact bk Tryz.func392; exact bk Tryz.func393; exact bk Tryz.func394; exact bk Tryz.func395; exact bk Tryz.func396; exact bk Tryz.func397; exact bk Tryz.func398; exact bk Tryz.func399; exact bk Tryz.func410; exact bk Tryz.func411; exact bk Tryz.func412; exact bk Tryz.func416
def Tryz.laySP_ren : Go.Shelf.Ren := ⟨fun | 6 => 157 | 15 => 144 | 14 => 218 | 28 => 207 | 29 => 185 | 20 => 267 | 21 => 268 | 22 => 269 | 23 => 270 | 24 => 271 | 25 => 272 | 26 => 273 | 27 => 274 | 46 => 318 | 47 => 250 | 48 => 251 | 49 => 319 | 50 => 320 | 57 => 356 | n => n, fun | 22 => 32 | 24 => 199 | 25 => 253 | 3 => 3 | 39 => 224 | 0 => 0 | 53 => 287 | 55 => 161 | 4 => 4 | 46 => 296 | 45 => 295 | 50 => 191 | 5 => 5 | 9 => 9 | 66 => 340 | 70 => 344 | 76 => 364 | 77 => 365 | n => n, fun | n => n⟩
theorem Tryz.laySP : Go.Proofs.SlLaysF0.n6 Tryz.prog Tryz.laySP_ren := by
  constructor <;> intros <;> try kernel_rfl
  exact bk Tryz.func157; exact bk Tryz.func218; exact bk Tryz.func267; exact bk Tryz.func268; exact bk Tryz.func269; exact bk Tryz.func270; exact bk Tryz.func271; exact bk Tryz.func272; exact bk Tryz.func273; exact bk Tryz.func274; exact bk Tryz.func318; exact bk Tryz.func319; exact bk Tryz.func320; exact bk Tryz.func356
def Tryz.layStr_ren : Go.Shelf.Ren := ⟨fun | 106 => 221 | 213 => 275 | 265 => 321 | n => n, fun | 9 => 9 | 3 => 3 | n => n, fun | n => n⟩
theorem Tryz.layStr : Go.Proofs.Lays.n106 Tryz.prog Tryz.layStr_ren := by constructor <;> intros <;> kernel_rfl
end Go.Proofs
