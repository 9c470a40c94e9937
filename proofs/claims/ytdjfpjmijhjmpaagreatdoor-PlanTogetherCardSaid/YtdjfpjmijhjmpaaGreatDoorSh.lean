/- Contracts of library functions, as the shelf's tool lays them at this translation. -/
import Derived.Shelf.Strings.OnBuilder
import Derived.Shelf.Strings.Builder2
import Derived.Shelf.Strings.BuilderK
import Derived.Shelf.Strings.Cut
import Derived.Shelf.Strings.Split
import Derived.Shelf.Strings.Prefix
import Derived.Shelf.Strings.Repeat
import Derived.Shelf.Strings.SlTrimAscii
import Derived.Shelf.Small.Wraps
import Derived.Shelf.Strconv.Atoi
import Derived.Shelf.Strconv.AtoiAll
import Derived.Shelf.Strconv.Itoa3
import Derived.Shelf.LaysM
import Derived.Test.YtdjfpjmijhjmpaaGreatDoorProg
namespace Go.Proofs
open Go.Shelf Tryz
def Tryz.lays169_ren : Go.Shelf.Ren := ⟨fun | 169 => 237 | n => n, fun | 70 => 261 | 9 => 9 | 0 => 0 | 72 => 263 | 37 => 48 | 127 => 329 | 3 => 3 | 5 => 5 | n => n, fun | n => n⟩
theorem Tryz.lays169 : Go.Proofs.Lays.n169 Tryz.prog Tryz.lays169_ren := ⟨by kernel_rfl,func237.trans (congrArg some (by kernel_rfl)),underlying0,isAgg0,sizeOf0,zeroValue0,underlying3,isAgg3,sizeOf3,zeroValue3,underlying9,isAgg9,sizeOf9,zeroValue9,underlying48,isAgg48,sizeOf48,zeroValue48,underlying261,isAgg261,sizeOf261,zeroValue261,underlying263,isAgg263,sizeOf263,zeroValue263,underlying329,isAgg329,sizeOf329,zeroValue329⟩
theorem Tryz.Builder_Extra_169 : Builder.Extra Tryz.prog Tryz.lays169_ren := {
  sizeBuilder := by kernel_rfl
  liesBuilder := by kernel_rfl
  t5 := Tryz.underlying5
  a5 := Tryz.isAgg5
  z5 := Tryz.sizeOf5
  v5 := Tryz.zeroValue5
  infoByte := by kernel_rfl
  cellsByte := by kernel_rfl
  sizeByte := by kernel_rfl
  neB5 := by decide }
def Tryz.lays156_ren : Go.Shelf.Ren := ⟨fun | 156 => 214 | 165 => 249 | 166 => 236 | 169 => 237 | 240 => 307 | 241 => 323 | 276 => 355 | 277 => 370 | n => n, fun | 31 => 30 | 9 => 9 | 3 => 3 | 4 => 4 | 0 => 0 | 20 => 20 | 72 => 263 | 76 => 251 | 70 => 261 | 37 => 48 | 75 => 128 | 127 => 329 | 164 => 369 | 5 => 5 | 80 => 98 | n => n, fun | n => n⟩
theorem Tryz.lays156 : Go.Proofs.Lays.n156 Tryz.prog Tryz.lays156_ren := ⟨by kernel_rfl,func214.trans (congrArg some (by kernel_rfl)),func249.trans (congrArg some (by kernel_rfl)),func236.trans (congrArg some (by kernel_rfl)),func237.trans (congrArg some (by kernel_rfl)),func307.trans (congrArg some (by kernel_rfl)),func323.trans (congrArg some (by kernel_rfl)),func355.trans (congrArg some (by kernel_rfl)),func370.trans (congrArg some (by kernel_rfl)),underlying0,isAgg0,sizeOf0,zeroValue0,underlying3,isAgg3,sizeOf3,zeroValue3,underlying4,isAgg4,sizeOf4,zeroValue4,underlying9,isAgg9,sizeOf9,zeroValue9,underlying20,isAgg20,sizeOf20,zeroValue20,underlying30,isAgg30,sizeOf30,zeroValue30,underlying48,isAgg48,sizeOf48,zeroValue48,underlying261,isAgg261,sizeOf261,zeroValue261,underlying263,isAgg263,sizeOf263,zeroValue263,underlying128,isAgg128,sizeOf128,zeroValue128,underlying251,isAgg251,sizeOf251,zeroValue251,underlying329,isAgg329,sizeOf329,zeroValue329,underlying369,isAgg369,sizeOf369,zeroValue369⟩
theorem Tryz.Builder_Extra_156 : Builder.Extra Tryz.prog Tryz.lays156_ren := {
  sizeBuilder := by kernel_rfl
  liesBuilder := by kernel_rfl
  t5 := Tryz.underlying5
  a5 := Tryz.isAgg5
  z5 := Tryz.sizeOf5
  v5 := Tryz.zeroValue5
  infoByte := by kernel_rfl
  cellsByte := by kernel_rfl
  sizeByte := by kernel_rfl
  neB5 := by decide }
open Go.RowKit in
theorem Tryz.strings_Join (bk o c : Nat) (xs : List ByteArray) (sep : ByteArray) (w : World) (hcells : ∀ (j : Nat) x, xs[j]? = some x → w.cell? ⟨bk, o + j, none⟩ = some (.string x)) (hbk : bk < w.heap.size) (hN : xs.length ≤ 140737488355328) (hcap : xs.length ≤ c) (hlen : (Lib.join (xs.map (·.data.toList)) sep.data.toList).length ≤ 140737488355328) :
    Calls Tryz.prog 214 #[.slice (some ⟨bk, o, none⟩) xs.length c, .string sep] w fun e w' => e = .returned (.string ⟨(Lib.join (xs.map (·.data.toList)) sep.data.toList).toArray⟩) ∧ Below w.heap.size w w' := Any.strings_Join Tryz.lays156 Tryz.Builder_Extra_156 bk o c xs sep w hcells hbk hN hcap hlen
def Tryz.lays160_ren : Go.Shelf.Ren := ⟨fun | 160 => 291 | 232 => 346 | 231 => 345 | 227 => 347 | 234 => 349 | 233 => 348 | 236 => 351 | 235 => 350 | 228 => 381 | 271 => 383 | 151 => 382 | 197 => 285 | 120 => 398 | 152 => 397 | 260 => 334 | 137 => 408 | 119 => 409 | 224 => 337 | 225 => 336 | 217 => 335 | 266 => 376 | n => n, fun | 9 => 9 | 4 => 4 | 3 => 3 | 5 => 5 | 117 => 365 | 116 => 364 | 0 => 0 | 124 => 368 | 21 => 21 | 105 => 319 | 46 => 183 | 119 => 384 | 139 => 387 | 138 => 386 | n => n, fun | 3 => 7 | 4 => 8 | n => n⟩
theorem Tryz.lays160 : Go.Proofs.Lays.n160 Tryz.prog Tryz.lays160_ren := ⟨by kernel_rfl,func409.trans (congrArg some (by kernel_rfl)),func398.trans (congrArg some (by kernel_rfl)),func408.trans (congrArg some (by kernel_rfl)),func382.trans (congrArg some (by kernel_rfl)),func397.trans (congrArg some (by kernel_rfl)),func291.trans (congrArg some (by kernel_rfl)),func285.trans (congrArg some (by kernel_rfl)),func335.trans (congrArg some (by kernel_rfl)),func337.trans (congrArg some (by kernel_rfl)),func336.trans (congrArg some (by kernel_rfl)),func347.trans (congrArg some (by kernel_rfl)),func381.trans (congrArg some (by kernel_rfl)),func345.trans (congrArg some (by kernel_rfl)),func346.trans (congrArg some (by kernel_rfl)),func348.trans (congrArg some (by kernel_rfl)),func349.trans (congrArg some (by kernel_rfl)),func350.trans (congrArg some (by kernel_rfl)),func351.trans (congrArg some (by kernel_rfl)),func334.trans (congrArg some (by kernel_rfl)),func376.trans (congrArg some (by kernel_rfl)),func383.trans (congrArg some (by kernel_rfl)),underlying0,isAgg0,sizeOf0,zeroValue0,underlying3,isAgg3,sizeOf3,zeroValue3,underlying4,isAgg4,sizeOf4,zeroValue4,underlying5,isAgg5,sizeOf5,zeroValue5,underlying9,isAgg9,sizeOf9,zeroValue9,underlying21,isAgg21,sizeOf21,zeroValue21,underlying183,isAgg183,sizeOf183,zeroValue183,underlying319,isAgg319,sizeOf319,zeroValue319,underlying364,isAgg364,sizeOf364,underlying365,isAgg365,sizeOf365,zeroValue365,underlying384,isAgg384,sizeOf384,underlying368,isAgg368,sizeOf368,zeroValue368,underlying386,isAgg386,sizeOf386,zeroValue386,underlying387,isAgg387,sizeOf387,zeroValue387,by kernel_rfl,by kernel_rfl⟩
def Tryz.lays122_ren : Go.Shelf.Ren := ⟨fun | 122 => 294 | 215 => 352 | n => n, fun | 3 => 3 | 4 => 4 | n => n, fun | n => n⟩
theorem Tryz.lays122 : Go.Proofs.Lays.n122 Tryz.prog Tryz.lays122_ren := ⟨by kernel_rfl,func294.trans (congrArg some (by kernel_rfl)),func352.trans (congrArg some (by kernel_rfl)),underlying3,isAgg3,sizeOf3,zeroValue3,underlying4,isAgg4,sizeOf4,zeroValue4⟩
open Go.RowKit in
theorem Tryz.cmp_Compare_int (x y : Int) (w : World) :
    Calls Tryz.prog 294 #[.int .i64 x, .int .i64 y] w fun e w' => e = .returned (.int .i64 (Lib.compareInt x y)) ∧ w' = w := Any.cmp_Compare_int Tryz.lays122 x y w
open Go.RowKit in
theorem Tryz.Builder_String_any_k (B b : Nat) (l : List UInt8) (w : World) (h : Lib.IsBuilderF 263 5 B b (Lib.byteCells l) w) (hBw : B ≤ w.heap.size) :
    Calls Tryz.prog 237 #[.pointer (some ⟨b, 0, none⟩)] w fun e w' => e = .returned (.string ⟨l.toArray⟩) ∧ (Lib.IsBuilderF 263 5 B b (Lib.byteCells l) w' ∧ Below B w w' ∧ Lib.OthersKept 5 (some b) w w') := Any.Builder_String_any_k Tryz.lays169 Tryz.Builder_Extra_169 B b l w h hBw
def Tryz.lays172_ren : Go.Shelf.Ren := ⟨fun | 172 => 220 | 244 => 288 | 245 => 289 | 247 => 339 | 279 => 340 | 280 => 341 | 281 => 342 | 282 => 343 | 287 => 378 | 316 => 379 | 171 => 215 | 205 => 380 | 321 => 395 | 322 => 396 | 243 => 283 | 246 => 333 | 283 => 372 | 284 => 373 | 285 => 374 | 286 => 375 | 129 => 391 | 317 => 390 | 318 => 392 | 319 => 393 | 320 => 394 | 337 => 406 | 338 => 407 | n => n, fun | 9 => 9 | 3 => 3 | 75 => 128 | 76 => 251 | 4 => 4 | 5 => 5 | 167 => 356 | 37 => 48 | 0 => 0 | 85 => 357 | 2 => 2 | 168 => 359 | 53 => 348 | 175 => 389 | 46 => 183 | 210 => 392 | 127 => 329 | 145 => 404 | 143 => 402 | 21 => 21 | 171 => 379 | 173 => 382 | 212 => 398 | 51 => 345 | 20 => 20 | 213 => 399 | 232 => 418 | 233 => 419 | 80 => 98 | n => n, fun | 15 => 9 | 16 => 10 | 17 => 11 | 18 => 12 | 19 => 13 | n => n⟩
theorem Tryz.lays172 : Go.Proofs.Lays.n172 Tryz.prog Tryz.lays172_ren := ⟨by kernel_rfl,func391.trans (congrArg some (by kernel_rfl)),func215.trans (congrArg some (by kernel_rfl)),func220.trans (congrArg some (by kernel_rfl)),func380.trans (congrArg some (by kernel_rfl)),func283.trans (congrArg some (by kernel_rfl)),func288.trans (congrArg some (by kernel_rfl)),func289.trans (congrArg some (by kernel_rfl)),func333.trans (congrArg some (by kernel_rfl)),func339.trans (congrArg some (by kernel_rfl)),func340.trans (congrArg some (by kernel_rfl)),func341.trans (congrArg some (by kernel_rfl)),func342.trans (congrArg some (by kernel_rfl)),func343.trans (congrArg some (by kernel_rfl)),func372.trans (congrArg some (by kernel_rfl)),func373.trans (congrArg some (by kernel_rfl)),func374.trans (congrArg some (by kernel_rfl)),func375.trans (congrArg some (by kernel_rfl)),func378.trans (congrArg some (by kernel_rfl)),func379.trans (congrArg some (by kernel_rfl)),func390.trans (congrArg some (by kernel_rfl)),func392.trans (congrArg some (by kernel_rfl)),func393.trans (congrArg some (by kernel_rfl)),func394.trans (congrArg some (by kernel_rfl)),func395.trans (congrArg some (by kernel_rfl)),func396.trans (congrArg some (by kernel_rfl)),func406.trans (congrArg some (by kernel_rfl)),func407.trans (congrArg some (by kernel_rfl)),underlying0,isAgg0,sizeOf0,zeroValue0,underlying2,isAgg2,sizeOf2,zeroValue2,underlying3,isAgg3,sizeOf3,zeroValue3,underlying4,isAgg4,sizeOf4,zeroValue4,underlying5,isAgg5,sizeOf5,zeroValue5,underlying9,isAgg9,sizeOf9,zeroValue9,underlying20,isAgg20,sizeOf20,zeroValue20,underlying21,isAgg21,sizeOf21,zeroValue21,underlying48,isAgg48,sizeOf48,zeroValue48,underlying183,isAgg183,sizeOf183,zeroValue183,underlying345,isAgg345,sizeOf345,zeroValue345,underlying348,isAgg348,sizeOf348,zeroValue348,underlying128,isAgg128,sizeOf128,zeroValue128,underlying251,isAgg251,sizeOf251,zeroValue251,underlying357,isAgg357,sizeOf357,zeroValue357,underlying329,isAgg329,sizeOf329,zeroValue329,underlying402,isAgg402,sizeOf402,zeroValue402,underlying404,isAgg404,sizeOf404,zeroValue404,underlying356,isAgg356,sizeOf356,zeroValue356,underlying359,isAgg359,sizeOf359,zeroValue359,underlying379,isAgg379,sizeOf379,zeroValue379,underlying382,isAgg382,sizeOf382,zeroValue382,underlying389,isAgg389,sizeOf389,zeroValue389,underlying392,isAgg392,sizeOf392,zeroValue392,underlying398,isAgg398,sizeOf398,zeroValue398,underlying399,isAgg399,sizeOf399,underlying418,isAgg418,sizeOf418,zeroValue418,underlying419,isAgg419,sizeOf419,zeroValue419,by kernel_rfl,by kernel_rfl,by kernel_rfl,by kernel_rfl,by kernel_rfl⟩
open Go.RowKit in
theorem Tryz.strconv_Atoi (s : ByteArray) (n : Int) (hl : s.size ≤ 18) (h : Lib.atoi s.data.toList = some n) (w : World) :
    Calls Tryz.prog 220 #[.string s] w fun e w' => e = .returned (.tuple #[.int .i64 n, .nilIface]) ∧ ∃ t, w' = Lib.bytesWorld w 5 t := Any.strconv_Atoi Tryz.lays172 s n hl h w
def Tryz.laysM171_ren : Go.Shelf.Ren := ⟨fun | 171 => 215 | 243 => 283 | 246 => 333 | 283 => 372 | 284 => 373 | 285 => 374 | 286 => 375 | 129 => 391 | 317 => 390 | 318 => 392 | 319 => 393 | 320 => 394 | 337 => 406 | 338 => 407 | n => n, fun | 3 => 3 | 9 => 9 | 2 => 2 | 4 => 4 | 171 => 379 | 0 => 0 | 53 => 348 | 37 => 48 | 5 => 5 | 173 => 382 | 212 => 398 | 51 => 345 | 20 => 20 | 213 => 399 | 46 => 183 | 232 => 418 | 233 => 419 | n => n, fun | 17 => 11 | 18 => 12 | 19 => 13 | n => n⟩
theorem Tryz.laysM171 : Go.Proofs.LaysM.n171 Tryz.prog Tryz.laysM171_ren := {
  mixed := by kernel_rfl
  f129 := Tryz.func391.trans (congrArg some (by kernel_rfl))
  f171 := Tryz.func215.trans (congrArg some (by kernel_rfl))
  f243 := Tryz.func283.trans (congrArg some (by kernel_rfl))
  f246 := Tryz.func333.trans (congrArg some (by kernel_rfl))
  f283 := Tryz.func372.trans (congrArg some (by kernel_rfl))
  f284 := Tryz.func373.trans (congrArg some (by kernel_rfl))
  f285 := Tryz.func374.trans (congrArg some (by kernel_rfl))
  f286 := Tryz.func375.trans (congrArg some (by kernel_rfl))
  f317 := Tryz.func390.trans (congrArg some (by kernel_rfl))
  f318 := Tryz.func392.trans (congrArg some (by kernel_rfl))
  f319 := Tryz.func393.trans (congrArg some (by kernel_rfl))
  f320 := Tryz.func394.trans (congrArg some (by kernel_rfl))
  f337 := Tryz.func406.trans (congrArg some (by kernel_rfl))
  f338 := Tryz.func407.trans (congrArg some (by kernel_rfl))
  t0 := Tryz.underlying0
  a0 := Tryz.isAgg0
  z0 := Tryz.sizeOf0
  v0 := Tryz.zeroValue0
  t2 := Tryz.underlying2
  a2 := Tryz.isAgg2
  z2 := Tryz.sizeOf2
  v2 := Tryz.zeroValue2
  t3 := Tryz.underlying3
  a3 := Tryz.isAgg3
  z3 := Tryz.sizeOf3
  v3 := Tryz.zeroValue3
  t4 := Tryz.underlying4
  a4 := Tryz.isAgg4
  z4 := Tryz.sizeOf4
  v4 := Tryz.zeroValue4
  t5 := Tryz.underlying5
  a5 := Tryz.isAgg5
  z5 := Tryz.sizeOf5
  v5 := Tryz.zeroValue5
  t9 := Tryz.underlying9
  a9 := Tryz.isAgg9
  z9 := Tryz.sizeOf9
  v9 := Tryz.zeroValue9
  t20 := Tryz.underlying20
  a20 := Tryz.isAgg20
  z20 := Tryz.sizeOf20
  v20 := Tryz.zeroValue20
  t37 := Tryz.underlying48
  a37 := Tryz.isAgg48
  z37 := Tryz.sizeOf48
  v37 := Tryz.zeroValue48
  t46 := Tryz.underlying183
  a46 := Tryz.isAgg183
  z46 := Tryz.sizeOf183
  v46 := Tryz.zeroValue183
  t51 := Tryz.underlying345
  a51 := Tryz.isAgg345
  z51 := Tryz.sizeOf345
  v51 := Tryz.zeroValue345
  t53 := Tryz.underlying348
  a53 := Tryz.isAgg348
  z53 := Tryz.sizeOf348
  v53 := Tryz.zeroValue348
  t171 := Tryz.underlying379
  a171 := Tryz.isAgg379
  z171 := Tryz.sizeOf379
  v171 := Tryz.zeroValue379
  t173 := Tryz.underlying382
  a173 := Tryz.isAgg382
  z173 := Tryz.sizeOf382
  v173 := Tryz.zeroValue382
  t212 := Tryz.underlying398
  a212 := Tryz.isAgg398
  z212 := Tryz.sizeOf398
  v212 := Tryz.zeroValue398
  t213 := Tryz.underlying399
  a213 := Tryz.isAgg399
  z213 := Tryz.sizeOf399
  t232 := Tryz.underlying418
  a232 := Tryz.isAgg418
  z232 := Tryz.sizeOf418
  v232 := Tryz.zeroValue418
  t233 := Tryz.underlying419
  a233 := Tryz.isAgg419
  z233 := Tryz.sizeOf419
  v233 := Tryz.zeroValue419
  g17 := by kernel_rfl
  g18 := by kernel_rfl
  g19 := by kernel_rfl
  i0 := by kernel_rfl
  i2 := by kernel_rfl
  i3 := by kernel_rfl
  i4 := by kernel_rfl
  i5 := by kernel_rfl
  i9 := by kernel_rfl
  i20 := by kernel_rfl
  i37 := by kernel_rfl
  i46 := by kernel_rfl
  i51 := by kernel_rfl
  i53 := by kernel_rfl
  i171 := by kernel_rfl
  i173 := by kernel_rfl
  i212 := by kernel_rfl
  i232 := by kernel_rfl
  i233 := by kernel_rfl
  m17 := by kernel_rfl
  m18 := by kernel_rfl
  m19 := by kernel_rfl }
open Go.RowKit Go.Sort Go.Lib in
theorem Tryz.strconv_Itoa (n : Int) (h0 : -9223372036854775808 ≤ n) (h1 : n ≤ 9223372036854775807) (w : World) (htab : Lib.TabIs Tryz.prog w "internal/strconv.uint64pow10" .u64 Lib.pow10Tab) :
    Calls Tryz.prog 215 #[.int .i64 n] w fun e w' => e = .returned (.string ⟨(Lib.itoa n).toArray⟩) ∧ ∃ k os, w' = grow (w.drewN k) os := Any.strconv_Itoa Tryz.laysM171 n h0 h1 w htab
def Tryz.lays171_ren : Go.Shelf.Ren := ⟨fun | 171 => 215 | 243 => 283 | 246 => 333 | 283 => 372 | 284 => 373 | 285 => 374 | 286 => 375 | 129 => 391 | 317 => 390 | 318 => 392 | 319 => 393 | 320 => 394 | 337 => 406 | 338 => 407 | n => n, fun | 3 => 3 | 9 => 9 | 2 => 2 | 4 => 4 | 171 => 379 | 0 => 0 | 53 => 348 | 37 => 48 | 5 => 5 | 173 => 382 | 212 => 398 | 51 => 345 | 20 => 20 | 213 => 399 | 46 => 183 | 232 => 418 | 233 => 419 | n => n, fun | 17 => 11 | 18 => 12 | 19 => 13 | n => n⟩
theorem Tryz.lays171 : Go.Proofs.Lays.n171 Tryz.prog Tryz.lays171_ren := ⟨by kernel_rfl,func391.trans (congrArg some (by kernel_rfl)),func215.trans (congrArg some (by kernel_rfl)),func283.trans (congrArg some (by kernel_rfl)),func333.trans (congrArg some (by kernel_rfl)),func372.trans (congrArg some (by kernel_rfl)),func373.trans (congrArg some (by kernel_rfl)),func374.trans (congrArg some (by kernel_rfl)),func375.trans (congrArg some (by kernel_rfl)),func390.trans (congrArg some (by kernel_rfl)),func392.trans (congrArg some (by kernel_rfl)),func393.trans (congrArg some (by kernel_rfl)),func394.trans (congrArg some (by kernel_rfl)),func406.trans (congrArg some (by kernel_rfl)),func407.trans (congrArg some (by kernel_rfl)),underlying0,isAgg0,sizeOf0,zeroValue0,underlying2,isAgg2,sizeOf2,zeroValue2,underlying3,isAgg3,sizeOf3,zeroValue3,underlying4,isAgg4,sizeOf4,zeroValue4,underlying5,isAgg5,sizeOf5,zeroValue5,underlying9,isAgg9,sizeOf9,zeroValue9,underlying20,isAgg20,sizeOf20,zeroValue20,underlying48,isAgg48,sizeOf48,zeroValue48,underlying183,isAgg183,sizeOf183,zeroValue183,underlying345,isAgg345,sizeOf345,zeroValue345,underlying348,isAgg348,sizeOf348,zeroValue348,underlying379,isAgg379,sizeOf379,zeroValue379,underlying382,isAgg382,sizeOf382,zeroValue382,underlying398,isAgg398,sizeOf398,zeroValue398,underlying399,isAgg399,sizeOf399,underlying418,isAgg418,sizeOf418,zeroValue418,underlying419,isAgg419,sizeOf419,zeroValue419,by kernel_rfl,by kernel_rfl,by kernel_rfl⟩
open Go.RowKit Go.Sort Go.Lib in
theorem Tryz.strconv_Itoa_small (i : Nat) (hi : i < 100) (w : World) :
    Calls Tryz.prog 215 #[.int .i64 i] w fun e w' => e = .returned (.string ⟨(Lib.decDigits i).toArray⟩) ∧ w' = w := Any.strconv_Itoa_small Tryz.lays171 i hi w
def Tryz.laysC172_ren : Go.Shelf.Ren := ⟨fun | 172 => 220 | 244 => 288 | 245 => 289 | 247 => 339 | 279 => 340 | 280 => 341 | 281 => 342 | 282 => 343 | 287 => 378 | 316 => 379 | 171 => 215 | 205 => 380 | 321 => 395 | 322 => 396 | 243 => 283 | 246 => 333 | 283 => 372 | 284 => 373 | 285 => 374 | 286 => 375 | 129 => 391 | 317 => 390 | 318 => 392 | 319 => 393 | 320 => 394 | 337 => 406 | 338 => 407 | n => n, fun | 9 => 9 | 3 => 3 | 75 => 128 | 76 => 251 | 4 => 4 | 5 => 5 | 167 => 356 | 37 => 48 | 0 => 0 | 85 => 357 | 2 => 2 | 168 => 359 | 53 => 348 | 175 => 389 | 46 => 183 | 210 => 392 | 127 => 329 | 145 => 404 | 143 => 402 | 21 => 21 | 171 => 379 | 173 => 382 | 212 => 398 | 51 => 345 | 20 => 20 | 213 => 399 | 232 => 418 | 233 => 419 | 80 => 98 | n => n, fun | 15 => 9 | 16 => 10 | 17 => 11 | 18 => 12 | 19 => 13 | n => n⟩
theorem Tryz.laysC172 : Go.Proofs.LaysC.n172 Tryz.prog Tryz.laysC172_ren := {
  mixed := by kernel_rfl
  f129 := Tryz.func391.trans (congrArg some (by kernel_rfl))
  f171 := Tryz.func215.trans (congrArg some (by kernel_rfl))
  f172 := Tryz.func220.trans (congrArg some (by kernel_rfl))
  f205 := Tryz.func380.trans (congrArg some (by kernel_rfl))
  f243 := Tryz.func283.trans (congrArg some (by kernel_rfl))
  f244 := Tryz.func288.trans (congrArg some (by kernel_rfl))
  f245 := Tryz.func289.trans (congrArg some (by kernel_rfl))
  f246 := Tryz.func333.trans (congrArg some (by kernel_rfl))
  f247 := Tryz.func339.trans (congrArg some (by kernel_rfl))
  f279 := Tryz.func340.trans (congrArg some (by kernel_rfl))
  f280 := Tryz.func341.trans (congrArg some (by kernel_rfl))
  f281 := Tryz.func342.trans (congrArg some (by kernel_rfl))
  f282 := Tryz.func343.trans (congrArg some (by kernel_rfl))
  f283 := Tryz.func372.trans (congrArg some (by kernel_rfl))
  f284 := Tryz.func373.trans (congrArg some (by kernel_rfl))
  f285 := Tryz.func374.trans (congrArg some (by kernel_rfl))
  f286 := Tryz.func375.trans (congrArg some (by kernel_rfl))
  f287 := Tryz.func378.trans (congrArg some (by kernel_rfl))
  f316 := Tryz.func379.trans (congrArg some (by kernel_rfl))
  f317 := Tryz.func390.trans (congrArg some (by kernel_rfl))
  f318 := Tryz.func392.trans (congrArg some (by kernel_rfl))
  f319 := Tryz.func393.trans (congrArg some (by kernel_rfl))
  f320 := Tryz.func394.trans (congrArg some (by kernel_rfl))
  f321 := Tryz.func395.trans (congrArg some (by kernel_rfl))
  f322 := Tryz.func396.trans (congrArg some (by kernel_rfl))
  f337 := Tryz.func406.trans (congrArg some (by kernel_rfl))
  f338 := Tryz.func407.trans (congrArg some (by kernel_rfl))
  t0 := Tryz.underlying0
  a0 := Tryz.isAgg0
  z0 := Tryz.sizeOf0
  v0 := Tryz.zeroValue0
  t2 := Tryz.underlying2
  a2 := Tryz.isAgg2
  z2 := Tryz.sizeOf2
  v2 := Tryz.zeroValue2
  t3 := Tryz.underlying3
  a3 := Tryz.isAgg3
  z3 := Tryz.sizeOf3
  v3 := Tryz.zeroValue3
  t4 := Tryz.underlying4
  a4 := Tryz.isAgg4
  z4 := Tryz.sizeOf4
  v4 := Tryz.zeroValue4
  t5 := Tryz.underlying5
  a5 := Tryz.isAgg5
  z5 := Tryz.sizeOf5
  v5 := Tryz.zeroValue5
  t9 := Tryz.underlying9
  a9 := Tryz.isAgg9
  z9 := Tryz.sizeOf9
  v9 := Tryz.zeroValue9
  t20 := Tryz.underlying20
  a20 := Tryz.isAgg20
  z20 := Tryz.sizeOf20
  v20 := Tryz.zeroValue20
  t21 := Tryz.underlying21
  a21 := Tryz.isAgg21
  z21 := Tryz.sizeOf21
  v21 := Tryz.zeroValue21
  t37 := Tryz.underlying48
  a37 := Tryz.isAgg48
  z37 := Tryz.sizeOf48
  v37 := Tryz.zeroValue48
  t46 := Tryz.underlying183
  a46 := Tryz.isAgg183
  z46 := Tryz.sizeOf183
  v46 := Tryz.zeroValue183
  t51 := Tryz.underlying345
  a51 := Tryz.isAgg345
  z51 := Tryz.sizeOf345
  v51 := Tryz.zeroValue345
  t53 := Tryz.underlying348
  a53 := Tryz.isAgg348
  z53 := Tryz.sizeOf348
  v53 := Tryz.zeroValue348
  t75 := Tryz.underlying128
  a75 := Tryz.isAgg128
  z75 := Tryz.sizeOf128
  v75 := Tryz.zeroValue128
  t76 := Tryz.underlying251
  a76 := Tryz.isAgg251
  z76 := Tryz.sizeOf251
  v76 := Tryz.zeroValue251
  t85 := Tryz.underlying357
  a85 := Tryz.isAgg357
  z85 := Tryz.sizeOf357
  v85 := Tryz.zeroValue357
  t127 := Tryz.underlying329
  a127 := Tryz.isAgg329
  z127 := Tryz.sizeOf329
  v127 := Tryz.zeroValue329
  t143 := Tryz.underlying402
  a143 := Tryz.isAgg402
  z143 := Tryz.sizeOf402
  v143 := Tryz.zeroValue402
  t145 := Tryz.underlying404
  a145 := Tryz.isAgg404
  z145 := Tryz.sizeOf404
  v145 := Tryz.zeroValue404
  t167 := Tryz.underlying356
  a167 := Tryz.isAgg356
  z167 := Tryz.sizeOf356
  v167 := Tryz.zeroValue356
  t168 := Tryz.underlying359
  a168 := Tryz.isAgg359
  z168 := Tryz.sizeOf359
  v168 := Tryz.zeroValue359
  t171 := Tryz.underlying379
  a171 := Tryz.isAgg379
  z171 := Tryz.sizeOf379
  v171 := Tryz.zeroValue379
  t173 := Tryz.underlying382
  a173 := Tryz.isAgg382
  z173 := Tryz.sizeOf382
  v173 := Tryz.zeroValue382
  t175 := Tryz.underlying389
  a175 := Tryz.isAgg389
  z175 := Tryz.sizeOf389
  v175 := Tryz.zeroValue389
  t210 := Tryz.underlying392
  a210 := Tryz.isAgg392
  z210 := Tryz.sizeOf392
  v210 := Tryz.zeroValue392
  t212 := Tryz.underlying398
  a212 := Tryz.isAgg398
  z212 := Tryz.sizeOf398
  v212 := Tryz.zeroValue398
  t213 := Tryz.underlying399
  a213 := Tryz.isAgg399
  z213 := Tryz.sizeOf399
  t232 := Tryz.underlying418
  a232 := Tryz.isAgg418
  z232 := Tryz.sizeOf418
  v232 := Tryz.zeroValue418
  t233 := Tryz.underlying419
  a233 := Tryz.isAgg419
  z233 := Tryz.sizeOf419
  v233 := Tryz.zeroValue419
  g15 := by kernel_rfl
  g16 := by kernel_rfl
  g17 := by kernel_rfl
  g18 := by kernel_rfl
  g19 := by kernel_rfl
  t80 := Tryz.underlying98
  a80 := Tryz.isAgg98
  z80 := Tryz.sizeOf98
  v80 := Tryz.zeroValue98
  i0 := by kernel_rfl
  i2 := by kernel_rfl
  i3 := by kernel_rfl
  i4 := by kernel_rfl
  i5 := by kernel_rfl
  i9 := by kernel_rfl
  i20 := by kernel_rfl
  i21 := by kernel_rfl
  i37 := by kernel_rfl
  i46 := by kernel_rfl
  i51 := by kernel_rfl
  i53 := by kernel_rfl
  i75 := by kernel_rfl
  i76 := by kernel_rfl
  i80 := by kernel_rfl
  i85 := by kernel_rfl
  i127 := by kernel_rfl
  i143 := by kernel_rfl
  i145 := by kernel_rfl
  i167 := by kernel_rfl
  i168 := by kernel_rfl
  i171 := by kernel_rfl
  i173 := by kernel_rfl
  i175 := by kernel_rfl
  i210 := by kernel_rfl
  i212 := by kernel_rfl
  i232 := by kernel_rfl
  i233 := by kernel_rfl
  m15 := by kernel_rfl
  m16 := by kernel_rfl
  m17 := by kernel_rfl
  m18 := by kernel_rfl
  m19 := by kernel_rfl
  c0 := by kernel_rfl
  c2 := by kernel_rfl
  c3 := by kernel_rfl
  c4 := by kernel_rfl
  c5 := by kernel_rfl
  c9 := by kernel_rfl
  c20 := by kernel_rfl
  c21 := by kernel_rfl
  c37 := by kernel_rfl
  c46 := by kernel_rfl
  c51 := by kernel_rfl
  c53 := by kernel_rfl
  c75 := by kernel_rfl
  c76 := by kernel_rfl
  c80 := by kernel_rfl
  c85 := by kernel_rfl
  c127 := by kernel_rfl
  c143 := by kernel_rfl
  c145 := by kernel_rfl
  c167 := by kernel_rfl
  c168 := by kernel_rfl
  c171 := by kernel_rfl
  c173 := by kernel_rfl
  c175 := by kernel_rfl
  c210 := by kernel_rfl
  c212 := by kernel_rfl
  c213 := by kernel_rfl
  c232 := by kernel_rfl
  c233 := by kernel_rfl }
open Go.RowKit in
theorem Tryz.strconv_Atoi_ok (s : ByteArray) (hmax : s.size ≤ 9223372036854775806) (v : Int) (h : Lib.atoiAll s.data.toList = .ok v) (w : World) :
    Calls Tryz.prog 220 #[.string s] w fun e w' => e = .returned (.tuple #[.int .i64 v, .nilIface]) ∧ (w' = w ∨ ∃ t, w' = Lib.bytesWorld w 5 t) := Any.strconv_Atoi_ok Tryz.laysC172 s hmax v h w
def Tryz.lays145_ren : Go.Shelf.Ren := ⟨fun | 145 => 125 | 220 => 219 | 219 => 287 | 217 => 335 | 225 => 336 | 224 => 337 | 267 => 338 | 266 => 376 | 314 => 377 | n => n, fun | 9 => 9 | 4 => 4 | 59 => 179 | 3 => 3 | 5 => 5 | 46 => 183 | 146 => 346 | 51 => 345 | n => n, fun | 1 => 6 | n => n⟩
theorem Tryz.lays145 : Go.Proofs.Lays.n145 Tryz.prog Tryz.lays145_ren := ⟨by kernel_rfl,func125.trans (congrArg some (by kernel_rfl)),func335.trans (congrArg some (by kernel_rfl)),func287.trans (congrArg some (by kernel_rfl)),func219.trans (congrArg some (by kernel_rfl)),func337.trans (congrArg some (by kernel_rfl)),func336.trans (congrArg some (by kernel_rfl)),func376.trans (congrArg some (by kernel_rfl)),func338.trans (congrArg some (by kernel_rfl)),func377.trans (congrArg some (by kernel_rfl)),underlying3,isAgg3,sizeOf3,zeroValue3,underlying4,isAgg4,sizeOf4,zeroValue4,underlying5,isAgg5,sizeOf5,zeroValue5,underlying9,isAgg9,sizeOf9,zeroValue9,underlying183,isAgg183,sizeOf183,zeroValue183,underlying345,isAgg345,sizeOf345,zeroValue345,underlying179,isAgg179,sizeOf179,zeroValue179,underlying346,isAgg346,sizeOf346,zeroValue346,by kernel_rfl⟩
open Go.RowKit Go.Lib in
theorem Tryz.strings_Cut (s sep : ByteArray) (m : Int) (w : World) (hs : s.size < 4294967281) (hm : w.cell? ⟨6, 0, none⟩ = some (.int .i64 m)) :
    Calls Tryz.prog 125 #[.string s, .string sep] w fun e w' => e = .returned (.tuple #[.string ⟨(Lib.cut s.data.toList sep.data.toList).1.toArray⟩, .string ⟨(Lib.cut s.data.toList sep.data.toList).2.1.toArray⟩, .bool (Lib.cut s.data.toList sep.data.toList).2.2]) ∧ ∃ n, w' = w.drewN n := Any.strings_Cut Tryz.lays145 s sep m w hs hm
def Tryz.lays101_ren : Go.Shelf.Ren := ⟨fun | 101 => 290 | 208 => 344 | 206 => 322 | n => n, fun | 9 => 9 | 4 => 4 | 3 => 3 | n => n, fun | n => n⟩
theorem Tryz.lays101 : Go.Proofs.Lays.n101 Tryz.prog Tryz.lays101_ren := ⟨by kernel_rfl,func290.trans (congrArg some (by kernel_rfl)),func322.trans (congrArg some (by kernel_rfl)),func344.trans (congrArg some (by kernel_rfl)),underlying3,isAgg3,sizeOf3,zeroValue3,underlying4,isAgg4,sizeOf4,zeroValue4,underlying9,isAgg9,sizeOf9,zeroValue9⟩
open Go.RowKit Go.Lib in
theorem Tryz.strings_TrimPrefix (s p : ByteArray) (w : World) :
    Calls Tryz.prog 290 #[.string s, .string p] w fun e w' => e = .returned (.string ⟨(Lib.trimPrefix s.data.toList p.data.toList).toArray⟩) ∧ w' = w := Any.strings_TrimPrefix Tryz.lays101 s p w
def Tryz.lays146_ren : Go.Shelf.Ren := ⟨fun | 146 => 39 | 221 => 123 | 268 => 216 | 138 => 217 | 143 => 218 | 195 => 284 | 197 => 285 | 218 => 286 | 219 => 287 | 260 => 334 | 217 => 335 | 225 => 336 | 224 => 337 | 267 => 338 | 266 => 376 | 314 => 377 | n => n, fun | 9 => 9 | 31 => 30 | 3 => 3 | 4 => 4 | 0 => 0 | 105 => 319 | 21 => 21 | 5 => 5 | 46 => 183 | 119 => 384 | 139 => 387 | 138 => 386 | 146 => 346 | 51 => 345 | n => n, fun | 1 => 6 | 3 => 7 | 4 => 8 | n => n⟩
theorem Tryz.lays146 : Go.Proofs.Lays.n146 Tryz.prog Tryz.lays146_ren := ⟨by kernel_rfl,func217.trans (congrArg some (by kernel_rfl)),func218.trans (congrArg some (by kernel_rfl)),func39.trans (congrArg some (by kernel_rfl)),func284.trans (congrArg some (by kernel_rfl)),func285.trans (congrArg some (by kernel_rfl)),func335.trans (congrArg some (by kernel_rfl)),func286.trans (congrArg some (by kernel_rfl)),func287.trans (congrArg some (by kernel_rfl)),func123.trans (congrArg some (by kernel_rfl)),func337.trans (congrArg some (by kernel_rfl)),func336.trans (congrArg some (by kernel_rfl)),func334.trans (congrArg some (by kernel_rfl)),func376.trans (congrArg some (by kernel_rfl)),func338.trans (congrArg some (by kernel_rfl)),func216.trans (congrArg some (by kernel_rfl)),func377.trans (congrArg some (by kernel_rfl)),underlying0,isAgg0,sizeOf0,zeroValue0,underlying3,isAgg3,sizeOf3,zeroValue3,underlying4,isAgg4,sizeOf4,zeroValue4,underlying5,isAgg5,sizeOf5,zeroValue5,underlying9,isAgg9,sizeOf9,zeroValue9,underlying21,isAgg21,sizeOf21,zeroValue21,underlying30,isAgg30,sizeOf30,zeroValue30,underlying183,isAgg183,sizeOf183,zeroValue183,underlying345,isAgg345,sizeOf345,zeroValue345,underlying319,isAgg319,sizeOf319,zeroValue319,underlying384,isAgg384,sizeOf384,underlying386,isAgg386,sizeOf386,zeroValue386,underlying387,isAgg387,sizeOf387,zeroValue387,underlying346,isAgg346,sizeOf346,zeroValue346,by kernel_rfl,by kernel_rfl,by kernel_rfl⟩
open Go.RowKit Go.Lib in
theorem Tryz.strings_Split (s sep : ByteArray) (m : Int) (w : World) (hs : s.size < 4294967281) (hm : w.cell? ⟨6, 0, none⟩ = some (.int .i64 m)) (h1 : 1 ≤ sep.size) :
    Calls Tryz.prog 39 #[.string s, .string sep] w fun e w' =>
      e = .returned (.slice (some ⟨w.heap.size, 0, none⟩) (Lib.countB s sep + 1) (Lib.countB s sep + 1)) ∧ w' = w.alloc (.cells ((Lib.splitB sep 0 (Lib.countB s sep) s).map Value.string).toArray 9) := Any.strings_Split Tryz.lays146 (by kernel_rfl) s sep m w hs hm h1
def Tryz.lays105_ren : Go.Shelf.Ren := ⟨fun | 105 => 163 | 212 => 247 | 99 => 248 | 165 => 249 | 166 => 236 | 170 => 250 | 169 => 237 | 263 => 320 | 264 => 321 | 206 => 322 | 240 => 307 | 241 => 323 | 276 => 355 | 277 => 370 | n => n, fun | 9 => 9 | 3 => 3 | 4 => 4 | 20 => 20 | 0 => 0 | 46 => 183 | 109 => 277 | 5 => 5 | 72 => 263 | 76 => 251 | 51 => 345 | 146 => 346 | 53 => 348 | 148 => 349 | 70 => 261 | 37 => 48 | 75 => 128 | 127 => 329 | 164 => 369 | 80 => 98 | n => n, fun | n => n⟩
theorem Tryz.lays105 : Go.Proofs.Lays.n105 Tryz.prog Tryz.lays105_ren := ⟨by kernel_rfl,func248.trans (congrArg some (by kernel_rfl)),func163.trans (congrArg some (by kernel_rfl)),func249.trans (congrArg some (by kernel_rfl)),func236.trans (congrArg some (by kernel_rfl)),func237.trans (congrArg some (by kernel_rfl)),func250.trans (congrArg some (by kernel_rfl)),func322.trans (congrArg some (by kernel_rfl)),func247.trans (congrArg some (by kernel_rfl)),func307.trans (congrArg some (by kernel_rfl)),func323.trans (congrArg some (by kernel_rfl)),func320.trans (congrArg some (by kernel_rfl)),func321.trans (congrArg some (by kernel_rfl)),func355.trans (congrArg some (by kernel_rfl)),func370.trans (congrArg some (by kernel_rfl)),underlying0,isAgg0,sizeOf0,zeroValue0,underlying3,isAgg3,sizeOf3,zeroValue3,underlying4,isAgg4,sizeOf4,zeroValue4,underlying5,isAgg5,sizeOf5,zeroValue5,underlying9,isAgg9,sizeOf9,zeroValue9,underlying20,isAgg20,sizeOf20,zeroValue20,underlying48,isAgg48,sizeOf48,zeroValue48,underlying183,isAgg183,sizeOf183,zeroValue183,underlying345,isAgg345,sizeOf345,zeroValue345,underlying348,isAgg348,sizeOf348,zeroValue348,underlying261,isAgg261,sizeOf261,zeroValue261,underlying263,isAgg263,sizeOf263,zeroValue263,underlying128,isAgg128,sizeOf128,zeroValue128,underlying251,isAgg251,sizeOf251,zeroValue251,underlying277,isAgg277,sizeOf277,zeroValue277,underlying329,isAgg329,sizeOf329,zeroValue329,underlying346,isAgg346,sizeOf346,zeroValue346,underlying349,isAgg349,sizeOf349,zeroValue349,underlying369,isAgg369,sizeOf369,zeroValue369⟩
theorem Tryz.Builder_Extra_105 : Builder.Extra Tryz.prog Tryz.lays105_ren := {
  sizeBuilder := by kernel_rfl
  liesBuilder := by kernel_rfl
  t5 := Tryz.underlying5
  a5 := Tryz.isAgg5
  z5 := Tryz.sizeOf5
  v5 := Tryz.zeroValue5
  infoByte := by kernel_rfl
  cellsByte := by kernel_rfl
  sizeByte := by kernel_rfl
  neB5 := by decide }
open Go.RowKit Go.Lib in
theorem Tryz.strings_Repeat (s : ByteArray) (c : Nat) (w : World) (hc : c ≤ 9223372036854775807) (hlen : s.size * c ≤ 140737488355328) :
    Calls Tryz.prog 163 #[.string s, .int .i64 c] w fun e w' => e = .returned (.string ⟨(Lib.repeatL s.data.toList c).toArray⟩) ∧ Below w.heap.size w w' := Any.strings_Repeat Tryz.lays105 Tryz.Builder_Extra_105 s c w hc hlen
end Go.Proofs
