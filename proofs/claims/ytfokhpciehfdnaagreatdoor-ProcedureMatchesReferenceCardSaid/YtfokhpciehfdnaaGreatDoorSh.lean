/- Contracts of library functions, as the shelf's tool lays them at this translation. -/
import Derived.Shelf.Strings.OnBuilder
import Derived.Shelf.Strings.Builder2
import Derived.Shelf.Strings.BuilderK
import Derived.Shelf.Strings.Cut
import Derived.Shelf.Strings.Split
import Derived.Shelf.Strings.Prefix
import Derived.Shelf.Strings.Repeat
import Derived.Shelf.Strings.SlTrimAscii
import Derived.Shelf.Small.Wraps
import Derived.Shelf.Strconv.Atoi
import Derived.Shelf.Strconv.AtoiAll
import Derived.Shelf.Strconv.Itoa3
import Derived.Shelf.LaysM
import Derived.Test.YtfokhpciehfdnaaGreatDoorProg
namespace Go.Proofs
open Go.Shelf Tryz
def Tryz.lays169_ren : Go.Shelf.Ren := ⟨fun | 169 => 81 | n => n, fun | 70 => 112 | 9 => 9 | 0 => 0 | 72 => 115 | 37 => 113 | 127 => 195 | 3 => 3 | 5 => 5 | n => n, fun | n => n⟩
theorem Tryz.lays169 : Go.Proofs.Lays.n169 Tryz.prog Tryz.lays169_ren := ⟨by kernel_rfl,func81.trans (congrArg some (by kernel_rfl)),underlying0,isAgg0,sizeOf0,zeroValue0,underlying3,isAgg3,sizeOf3,zeroValue3,underlying9,isAgg9,sizeOf9,zeroValue9,underlying113,isAgg113,sizeOf113,zeroValue113,underlying112,isAgg112,sizeOf112,zeroValue112,underlying115,isAgg115,sizeOf115,zeroValue115,underlying195,isAgg195,sizeOf195,zeroValue195⟩
theorem Tryz.Builder_Extra_169 : Builder.Extra Tryz.prog Tryz.lays169_ren := {
  sizeBuilder := by kernel_rfl
  liesBuilder := by kernel_rfl
  t5 := Tryz.underlying5
  a5 := Tryz.isAgg5
  z5 := Tryz.sizeOf5
  v5 := Tryz.zeroValue5
  infoByte := by kernel_rfl
  cellsByte := by kernel_rfl
  sizeByte := by kernel_rfl
  neB5 := by decide }
def Tryz.lays156_ren : Go.Shelf.Ren := ⟨fun | 156 => 154 | 165 => 211 | 166 => 77 | 169 => 81 | 240 => 149 | 241 => 254 | 276 => 209 | 277 => 292 | n => n, fun | 31 => 129 | 9 => 9 | 3 => 3 | 4 => 4 | 0 => 0 | 20 => 20 | 72 => 115 | 76 => 118 | 70 => 112 | 37 => 113 | 75 => 117 | 127 => 195 | 164 => 238 | 5 => 5 | 80 => 123 | n => n, fun | n => n⟩
theorem Tryz.lays156 : Go.Proofs.Lays.n156 Tryz.prog Tryz.lays156_ren := ⟨by kernel_rfl,func154.trans (congrArg some (by kernel_rfl)),func211.trans (congrArg some (by kernel_rfl)),func77.trans (congrArg some (by kernel_rfl)),func81.trans (congrArg some (by kernel_rfl)),func149.trans (congrArg some (by kernel_rfl)),func254.trans (congrArg some (by kernel_rfl)),func209.trans (congrArg some (by kernel_rfl)),func292.trans (congrArg some (by kernel_rfl)),underlying0,isAgg0,sizeOf0,zeroValue0,underlying3,isAgg3,sizeOf3,zeroValue3,underlying4,isAgg4,sizeOf4,zeroValue4,underlying9,isAgg9,sizeOf9,zeroValue9,underlying20,isAgg20,sizeOf20,zeroValue20,underlying129,isAgg129,sizeOf129,zeroValue129,underlying113,isAgg113,sizeOf113,zeroValue113,underlying112,isAgg112,sizeOf112,zeroValue112,underlying115,isAgg115,sizeOf115,zeroValue115,underlying117,isAgg117,sizeOf117,zeroValue117,underlying118,isAgg118,sizeOf118,zeroValue118,underlying195,isAgg195,sizeOf195,zeroValue195,underlying238,isAgg238,sizeOf238,zeroValue238⟩
theorem Tryz.Builder_Extra_156 : Builder.Extra Tryz.prog Tryz.lays156_ren := {
  sizeBuilder := by kernel_rfl
  liesBuilder := by kernel_rfl
  t5 := Tryz.underlying5
  a5 := Tryz.isAgg5
  z5 := Tryz.sizeOf5
  v5 := Tryz.zeroValue5
  infoByte := by kernel_rfl
  cellsByte := by kernel_rfl
  sizeByte := by kernel_rfl
  neB5 := by decide }
open Go.RowKit in
theorem Tryz.strings_Join (bk o c : Nat) (xs : List ByteArray) (sep : ByteArray) (w : World) (hcells : ∀ (j : Nat) x, xs[j]? = some x → w.cell? ⟨bk, o + j, none⟩ = some (.string x)) (hbk : bk < w.heap.size) (hN : xs.length ≤ 140737488355328) (hcap : xs.length ≤ c) (hlen : (Lib.join (xs.map (·.data.toList)) sep.data.toList).length ≤ 140737488355328) :
    Calls Tryz.prog 154 #[.slice (some ⟨bk, o, none⟩) xs.length c, .string sep] w fun e w' => e = .returned (.string ⟨(Lib.join (xs.map (·.data.toList)) sep.data.toList).toArray⟩) ∧ Below w.heap.size w w' := Any.strings_Join Tryz.lays156 Tryz.Builder_Extra_156 bk o c xs sep w hcells hbk hN hcap hlen
def Tryz.lays160_ren : Go.Shelf.Ren := ⟨fun | 160 => 231 | 232 => 276 | 231 => 275 | 227 => 277 | 234 => 279 | 233 => 278 | 236 => 281 | 235 => 280 | 228 => 302 | 271 => 304 | 151 => 303 | 197 => 266 | 120 => 312 | 152 => 311 | 260 => 297 | 137 => 313 | 119 => 314 | 224 => 300 | 225 => 299 | 217 => 298 | 266 => 309 | n => n, fun | 9 => 9 | 4 => 4 | 3 => 3 | 5 => 5 | 117 => 291 | 116 => 290 | 0 => 0 | 124 => 294 | 21 => 21 | 105 => 283 | 46 => 263 | 119 => 329 | 139 => 332 | 138 => 331 | n => n, fun | 3 => 5 | 4 => 6 | n => n⟩
theorem Tryz.lays160 : Go.Proofs.Lays.n160 Tryz.prog Tryz.lays160_ren := ⟨by kernel_rfl,func314.trans (congrArg some (by kernel_rfl)),func312.trans (congrArg some (by kernel_rfl)),func313.trans (congrArg some (by kernel_rfl)),func303.trans (congrArg some (by kernel_rfl)),func311.trans (congrArg some (by kernel_rfl)),func231.trans (congrArg some (by kernel_rfl)),func266.trans (congrArg some (by kernel_rfl)),func298.trans (congrArg some (by kernel_rfl)),func300.trans (congrArg some (by kernel_rfl)),func299.trans (congrArg some (by kernel_rfl)),func277.trans (congrArg some (by kernel_rfl)),func302.trans (congrArg some (by kernel_rfl)),func275.trans (congrArg some (by kernel_rfl)),func276.trans (congrArg some (by kernel_rfl)),func278.trans (congrArg some (by kernel_rfl)),func279.trans (congrArg some (by kernel_rfl)),func280.trans (congrArg some (by kernel_rfl)),func281.trans (congrArg some (by kernel_rfl)),func297.trans (congrArg some (by kernel_rfl)),func309.trans (congrArg some (by kernel_rfl)),func304.trans (congrArg some (by kernel_rfl)),underlying0,isAgg0,sizeOf0,zeroValue0,underlying3,isAgg3,sizeOf3,zeroValue3,underlying4,isAgg4,sizeOf4,zeroValue4,underlying5,isAgg5,sizeOf5,zeroValue5,underlying9,isAgg9,sizeOf9,zeroValue9,underlying21,isAgg21,sizeOf21,zeroValue21,underlying263,isAgg263,sizeOf263,zeroValue263,underlying283,isAgg283,sizeOf283,zeroValue283,underlying290,isAgg290,sizeOf290,underlying291,isAgg291,sizeOf291,zeroValue291,underlying329,isAgg329,sizeOf329,underlying294,isAgg294,sizeOf294,zeroValue294,underlying331,isAgg331,sizeOf331,zeroValue331,underlying332,isAgg332,sizeOf332,zeroValue332,by kernel_rfl,by kernel_rfl⟩
def Tryz.lays122_ren : Go.Shelf.Ren := ⟨fun | 122 => 233 | 215 => 282 | n => n, fun | 3 => 3 | 4 => 4 | n => n, fun | n => n⟩
theorem Tryz.lays122 : Go.Proofs.Lays.n122 Tryz.prog Tryz.lays122_ren := ⟨by kernel_rfl,func233.trans (congrArg some (by kernel_rfl)),func282.trans (congrArg some (by kernel_rfl)),underlying3,isAgg3,sizeOf3,zeroValue3,underlying4,isAgg4,sizeOf4,zeroValue4⟩
open Go.RowKit in
theorem Tryz.cmp_Compare_int (x y : Int) (w : World) :
    Calls Tryz.prog 233 #[.int .i64 x, .int .i64 y] w fun e w' => e = .returned (.int .i64 (Lib.compareInt x y)) ∧ w' = w := Any.cmp_Compare_int Tryz.lays122 x y w
open Go.RowKit in
theorem Tryz.Builder_String_any_k (B b : Nat) (l : List UInt8) (w : World) (h : Lib.IsBuilderF 115 5 B b (Lib.byteCells l) w) (hBw : B ≤ w.heap.size) :
    Calls Tryz.prog 81 #[.pointer (some ⟨b, 0, none⟩)] w fun e w' => e = .returned (.string ⟨l.toArray⟩) ∧ (Lib.IsBuilderF 115 5 B b (Lib.byteCells l) w' ∧ Below B w w' ∧ Lib.OthersKept 5 (some b) w w') := Any.Builder_String_any_k Tryz.lays169 Tryz.Builder_Extra_169 B b l w h hBw
def Tryz.lays172_ren : Go.Shelf.Ren := ⟨fun | 172 => 155 | 244 => 212 | 245 => 213 | 247 => 255 | 279 => 256 | 280 => 257 | 281 => 258 | 282 => 259 | 287 => 293 | 316 => 294 | 171 => 78 | 205 => 295 | 321 => 307 | 322 => 308 | 243 => 150 | 246 => 210 | 283 => 250 | 284 => 251 | 285 => 252 | 286 => 253 | 129 => 288 | 317 => 287 | 318 => 289 | 319 => 290 | 320 => 291 | 337 => 305 | 338 => 306 | n => n, fun | 9 => 9 | 3 => 3 | 75 => 117 | 76 => 118 | 4 => 4 | 5 => 5 | 167 => 273 | 37 => 113 | 0 => 0 | 85 => 274 | 2 => 2 | 168 => 276 | 53 => 268 | 175 => 317 | 46 => 263 | 210 => 320 | 127 => 195 | 145 => 328 | 143 => 326 | 21 => 21 | 171 => 267 | 173 => 271 | 212 => 313 | 51 => 307 | 20 => 20 | 213 => 314 | 232 => 335 | 233 => 336 | 80 => 123 | n => n, fun | 15 => 2 | 16 => 3 | 17 => 1 | 18 => 7 | 19 => 8 | n => n⟩
theorem Tryz.lays172 : Go.Proofs.Lays.n172 Tryz.prog Tryz.lays172_ren := ⟨by kernel_rfl,func288.trans (congrArg some (by kernel_rfl)),func78.trans (congrArg some (by kernel_rfl)),func155.trans (congrArg some (by kernel_rfl)),func295.trans (congrArg some (by kernel_rfl)),func150.trans (congrArg some (by kernel_rfl)),func212.trans (congrArg some (by kernel_rfl)),func213.trans (congrArg some (by kernel_rfl)),func210.trans (congrArg some (by kernel_rfl)),func255.trans (congrArg some (by kernel_rfl)),func256.trans (congrArg some (by kernel_rfl)),func257.trans (congrArg some (by kernel_rfl)),func258.trans (congrArg some (by kernel_rfl)),func259.trans (congrArg some (by kernel_rfl)),func250.trans (congrArg some (by kernel_rfl)),func251.trans (congrArg some (by kernel_rfl)),func252.trans (congrArg some (by kernel_rfl)),func253.trans (congrArg some (by kernel_rfl)),func293.trans (congrArg some (by kernel_rfl)),func294.trans (congrArg some (by kernel_rfl)),func287.trans (congrArg some (by kernel_rfl)),func289.trans (congrArg some (by kernel_rfl)),func290.trans (congrArg some (by kernel_rfl)),func291.trans (congrArg some (by kernel_rfl)),func307.trans (congrArg some (by kernel_rfl)),func308.trans (congrArg some (by kernel_rfl)),func305.trans (congrArg some (by kernel_rfl)),func306.trans (congrArg some (by kernel_rfl)),underlying0,isAgg0,sizeOf0,zeroValue0,underlying2,isAgg2,sizeOf2,zeroValue2,underlying3,isAgg3,sizeOf3,zeroValue3,underlying4,isAgg4,sizeOf4,zeroValue4,underlying5,isAgg5,sizeOf5,zeroValue5,underlying9,isAgg9,sizeOf9,zeroValue9,underlying20,isAgg20,sizeOf20,zeroValue20,underlying21,isAgg21,sizeOf21,zeroValue21,underlying113,isAgg113,sizeOf113,zeroValue113,underlying263,isAgg263,sizeOf263,zeroValue263,underlying307,isAgg307,sizeOf307,zeroValue307,underlying268,isAgg268,sizeOf268,zeroValue268,underlying117,isAgg117,sizeOf117,zeroValue117,underlying118,isAgg118,sizeOf118,zeroValue118,underlying274,isAgg274,sizeOf274,zeroValue274,underlying195,isAgg195,sizeOf195,zeroValue195,underlying326,isAgg326,sizeOf326,zeroValue326,underlying328,isAgg328,sizeOf328,zeroValue328,underlying273,isAgg273,sizeOf273,zeroValue273,underlying276,isAgg276,sizeOf276,zeroValue276,underlying267,isAgg267,sizeOf267,zeroValue267,underlying271,isAgg271,sizeOf271,zeroValue271,underlying317,isAgg317,sizeOf317,zeroValue317,underlying320,isAgg320,sizeOf320,zeroValue320,underlying313,isAgg313,sizeOf313,zeroValue313,underlying314,isAgg314,sizeOf314,underlying335,isAgg335,sizeOf335,zeroValue335,underlying336,isAgg336,sizeOf336,zeroValue336,by kernel_rfl,by kernel_rfl,by kernel_rfl,by kernel_rfl,by kernel_rfl⟩
open Go.RowKit in
theorem Tryz.strconv_Atoi (s : ByteArray) (n : Int) (hl : s.size ≤ 18) (h : Lib.atoi s.data.toList = some n) (w : World) :
    Calls Tryz.prog 155 #[.string s] w fun e w' => e = .returned (.tuple #[.int .i64 n, .nilIface]) ∧ ∃ t, w' = Lib.bytesWorld w 5 t := Any.strconv_Atoi Tryz.lays172 s n hl h w
def Tryz.laysM171_ren : Go.Shelf.Ren := ⟨fun | 171 => 78 | 243 => 150 | 246 => 210 | 283 => 250 | 284 => 251 | 285 => 252 | 286 => 253 | 129 => 288 | 317 => 287 | 318 => 289 | 319 => 290 | 320 => 291 | 337 => 305 | 338 => 306 | n => n, fun | 3 => 3 | 9 => 9 | 2 => 2 | 4 => 4 | 171 => 267 | 0 => 0 | 53 => 268 | 37 => 113 | 5 => 5 | 173 => 271 | 212 => 313 | 51 => 307 | 20 => 20 | 213 => 314 | 46 => 263 | 232 => 335 | 233 => 336 | n => n, fun | 17 => 1 | 18 => 7 | 19 => 8 | n => n⟩
theorem Tryz.laysM171 : Go.Proofs.LaysM.n171 Tryz.prog Tryz.laysM171_ren := {
  mixed := by kernel_rfl
  f129 := Tryz.func288.trans (congrArg some (by kernel_rfl))
  f171 := Tryz.func78.trans (congrArg some (by kernel_rfl))
  f243 := Tryz.func150.trans (congrArg some (by kernel_rfl))
  f246 := Tryz.func210.trans (congrArg some (by kernel_rfl))
  f283 := Tryz.func250.trans (congrArg some (by kernel_rfl))
  f284 := Tryz.func251.trans (congrArg some (by kernel_rfl))
  f285 := Tryz.func252.trans (congrArg some (by kernel_rfl))
  f286 := Tryz.func253.trans (congrArg some (by kernel_rfl))
  f317 := Tryz.func287.trans (congrArg some (by kernel_rfl))
  f318 := Tryz.func289.trans (congrArg some (by kernel_rfl))
  f319 := Tryz.func290.trans (congrArg some (by kernel_rfl))
  f320 := Tryz.func291.trans (congrArg some (by kernel_rfl))
  f337 := Tryz.func305.trans (congrArg some (by kernel_rfl))
  f338 := Tryz.func306.trans (congrArg some (by kernel_rfl))
  t0 := Tryz.underlying0
  a0 := Tryz.isAgg0
  z0 := Tryz.sizeOf0
  v0 := Tryz.zeroValue0
  t2 := Tryz.underlying2
  a2 := Tryz.isAgg2
  z2 := Tryz.sizeOf2
  v2 := Tryz.zeroValue2
  t3 := Tryz.underlying3
  a3 := Tryz.isAgg3
  z3 := Tryz.sizeOf3
  v3 := Tryz.zeroValue3
  t4 := Tryz.underlying4
  a4 := Tryz.isAgg4
  z4 := Tryz.sizeOf4
  v4 := Tryz.zeroValue4
  t5 := Tryz.underlying5
  a5 := Tryz.isAgg5
  z5 := Tryz.sizeOf5
  v5 := Tryz.zeroValue5
  t9 := Tryz.underlying9
  a9 := Tryz.isAgg9
  z9 := Tryz.sizeOf9
  v9 := Tryz.zeroValue9
  t20 := Tryz.underlying20
  a20 := Tryz.isAgg20
  z20 := Tryz.sizeOf20
  v20 := Tryz.zeroValue20
  t37 := Tryz.underlying113
  a37 := Tryz.isAgg113
  z37 := Tryz.sizeOf113
  v37 := Tryz.zeroValue113
  t46 := Tryz.underlying263
  a46 := Tryz.isAgg263
  z46 := Tryz.sizeOf263
  v46 := Tryz.zeroValue263
  t51 := Tryz.underlying307
  a51 := Tryz.isAgg307
  z51 := Tryz.sizeOf307
  v51 := Tryz.zeroValue307
  t53 := Tryz.underlying268
  a53 := Tryz.isAgg268
  z53 := Tryz.sizeOf268
  v53 := Tryz.zeroValue268
  t171 := Tryz.underlying267
  a171 := Tryz.isAgg267
  z171 := Tryz.sizeOf267
  v171 := Tryz.zeroValue267
  t173 := Tryz.underlying271
  a173 := Tryz.isAgg271
  z173 := Tryz.sizeOf271
  v173 := Tryz.zeroValue271
  t212 := Tryz.underlying313
  a212 := Tryz.isAgg313
  z212 := Tryz.sizeOf313
  v212 := Tryz.zeroValue313
  t213 := Tryz.underlying314
  a213 := Tryz.isAgg314
  z213 := Tryz.sizeOf314
  t232 := Tryz.underlying335
  a232 := Tryz.isAgg335
  z232 := Tryz.sizeOf335
  v232 := Tryz.zeroValue335
  t233 := Tryz.underlying336
  a233 := Tryz.isAgg336
  z233 := Tryz.sizeOf336
  v233 := Tryz.zeroValue336
  g17 := by kernel_rfl
  g18 := by kernel_rfl
  g19 := by kernel_rfl
  i0 := by kernel_rfl
  i2 := by kernel_rfl
  i3 := by kernel_rfl
  i4 := by kernel_rfl
  i5 := by kernel_rfl
  i9 := by kernel_rfl
  i20 := by kernel_rfl
  i37 := by kernel_rfl
  i46 := by kernel_rfl
  i51 := by kernel_rfl
  i53 := by kernel_rfl
  i171 := by kernel_rfl
  i173 := by kernel_rfl
  i212 := by kernel_rfl
  i232 := by kernel_rfl
  i233 := by kernel_rfl
  m17 := by kernel_rfl
  m18 := by kernel_rfl
  m19 := by kernel_rfl }
open Go.RowKit Go.Sort Go.Lib in
theorem Tryz.strconv_Itoa (n : Int) (h0 : -9223372036854775808 ≤ n) (h1 : n ≤ 9223372036854775807) (w : World) (htab : Lib.TabIs Tryz.prog w "internal/strconv.uint64pow10" .u64 Lib.pow10Tab) :
    Calls Tryz.prog 78 #[.int .i64 n] w fun e w' => e = .returned (.string ⟨(Lib.itoa n).toArray⟩) ∧ ∃ k os, w' = grow (w.drewN k) os := Any.strconv_Itoa Tryz.laysM171 n h0 h1 w htab
def Tryz.lays171_ren : Go.Shelf.Ren := ⟨fun | 171 => 78 | 243 => 150 | 246 => 210 | 283 => 250 | 284 => 251 | 285 => 252 | 286 => 253 | 129 => 288 | 317 => 287 | 318 => 289 | 319 => 290 | 320 => 291 | 337 => 305 | 338 => 306 | n => n, fun | 3 => 3 | 9 => 9 | 2 => 2 | 4 => 4 | 171 => 267 | 0 => 0 | 53 => 268 | 37 => 113 | 5 => 5 | 173 => 271 | 212 => 313 | 51 => 307 | 20 => 20 | 213 => 314 | 46 => 263 | 232 => 335 | 233 => 336 | n => n, fun | 17 => 1 | 18 => 7 | 19 => 8 | n => n⟩
theorem Tryz.lays171 : Go.Proofs.Lays.n171 Tryz.prog Tryz.lays171_ren := ⟨by kernel_rfl,func288.trans (congrArg some (by kernel_rfl)),func78.trans (congrArg some (by kernel_rfl)),func150.trans (congrArg some (by kernel_rfl)),func210.trans (congrArg some (by kernel_rfl)),func250.trans (congrArg some (by kernel_rfl)),func251.trans (congrArg some (by kernel_rfl)),func252.trans (congrArg some (by kernel_rfl)),func253.trans (congrArg some (by kernel_rfl)),func287.trans (congrArg some (by kernel_rfl)),func289.trans (congrArg some (by kernel_rfl)),func290.trans (congrArg some (by kernel_rfl)),func291.trans (congrArg some (by kernel_rfl)),func305.trans (congrArg some (by kernel_rfl)),func306.trans (congrArg some (by kernel_rfl)),underlying0,isAgg0,sizeOf0,zeroValue0,underlying2,isAgg2,sizeOf2,zeroValue2,underlying3,isAgg3,sizeOf3,zeroValue3,underlying4,isAgg4,sizeOf4,zeroValue4,underlying5,isAgg5,sizeOf5,zeroValue5,underlying9,isAgg9,sizeOf9,zeroValue9,underlying20,isAgg20,sizeOf20,zeroValue20,underlying113,isAgg113,sizeOf113,zeroValue113,underlying263,isAgg263,sizeOf263,zeroValue263,underlying307,isAgg307,sizeOf307,zeroValue307,underlying268,isAgg268,sizeOf268,zeroValue268,underlying267,isAgg267,sizeOf267,zeroValue267,underlying271,isAgg271,sizeOf271,zeroValue271,underlying313,isAgg313,sizeOf313,zeroValue313,underlying314,isAgg314,sizeOf314,underlying335,isAgg335,sizeOf335,zeroValue335,underlying336,isAgg336,sizeOf336,zeroValue336,by kernel_rfl,by kernel_rfl,by kernel_rfl⟩
open Go.RowKit Go.Sort Go.Lib in
theorem Tryz.strconv_Itoa_small (i : Nat) (hi : i < 100) (w : World) :
    Calls Tryz.prog 78 #[.int .i64 i] w fun e w' => e = .returned (.string ⟨(Lib.decDigits i).toArray⟩) ∧ w' = w := Any.strconv_Itoa_small Tryz.lays171 i hi w
def Tryz.laysC172_ren : Go.Shelf.Ren := ⟨fun | 172 => 155 | 244 => 212 | 245 => 213 | 247 => 255 | 279 => 256 | 280 => 257 | 281 => 258 | 282 => 259 | 287 => 293 | 316 => 294 | 171 => 78 | 205 => 295 | 321 => 307 | 322 => 308 | 243 => 150 | 246 => 210 | 283 => 250 | 284 => 251 | 285 => 252 | 286 => 253 | 129 => 288 | 317 => 287 | 318 => 289 | 319 => 290 | 320 => 291 | 337 => 305 | 338 => 306 | n => n, fun | 9 => 9 | 3 => 3 | 75 => 117 | 76 => 118 | 4 => 4 | 5 => 5 | 167 => 273 | 37 => 113 | 0 => 0 | 85 => 274 | 2 => 2 | 168 => 276 | 53 => 268 | 175 => 317 | 46 => 263 | 210 => 320 | 127 => 195 | 145 => 328 | 143 => 326 | 21 => 21 | 171 => 267 | 173 => 271 | 212 => 313 | 51 => 307 | 20 => 20 | 213 => 314 | 232 => 335 | 233 => 336 | 80 => 123 | n => n, fun | 15 => 2 | 16 => 3 | 17 => 1 | 18 => 7 | 19 => 8 | n => n⟩
theorem Tryz.laysC172 : Go.Proofs.LaysC.n172 Tryz.prog Tryz.laysC172_ren := {
  mixed := by kernel_rfl
  f129 := Tryz.func288.trans (congrArg some (by kernel_rfl))
  f171 := Tryz.func78.trans (congrArg some (by kernel_rfl))
  f172 := Tryz.func155.trans (congrArg some (by kernel_rfl))
  f205 := Tryz.func295.trans (congrArg some (by kernel_rfl))
  f243 := Tryz.func150.trans (congrArg some (by kernel_rfl))
  f244 := Tryz.func212.trans (congrArg some (by kernel_rfl))
  f245 := Tryz.func213.trans (congrArg some (by kernel_rfl))
  f246 := Tryz.func210.trans (congrArg some (by kernel_rfl))
  f247 := Tryz.func255.trans (congrArg some (by kernel_rfl))
  f279 := Tryz.func256.trans (congrArg some (by kernel_rfl))
  f280 := Tryz.func257.trans (congrArg some (by kernel_rfl))
  f281 := Tryz.func258.trans (congrArg some (by kernel_rfl))
  f282 := Tryz.func259.trans (congrArg some (by kernel_rfl))
  f283 := Tryz.func250.trans (congrArg some (by kernel_rfl))
  f284 := Tryz.func251.trans (congrArg some (by kernel_rfl))
  f285 := Tryz.func252.trans (congrArg some (by kernel_rfl))
  f286 := Tryz.func253.trans (congrArg some (by kernel_rfl))
  f287 := Tryz.func293.trans (congrArg some (by kernel_rfl))
  f316 := Tryz.func294.trans (congrArg some (by kernel_rfl))
  f317 := Tryz.func287.trans (congrArg some (by kernel_rfl))
  f318 := Tryz.func289.trans (congrArg some (by kernel_rfl))
  f319 := Tryz.func290.trans (congrArg some (by kernel_rfl))
  f320 := Tryz.func291.trans (congrArg some (by kernel_rfl))
  f321 := Tryz.func307.trans (congrArg some (by kernel_rfl))
  f322 := Tryz.func308.trans (congrArg some (by kernel_rfl))
  f337 := Tryz.func305.trans (congrArg some (by kernel_rfl))
  f338 := Tryz.func306.trans (congrArg some (by kernel_rfl))
  t0 := Tryz.underlying0
  a0 := Tryz.isAgg0
  z0 := Tryz.sizeOf0
  v0 := Tryz.zeroValue0
  t2 := Tryz.underlying2
  a2 := Tryz.isAgg2
  z2 := Tryz.sizeOf2
  v2 := Tryz.zeroValue2
  t3 := Tryz.underlying3
  a3 := Tryz.isAgg3
  z3 := Tryz.sizeOf3
  v3 := Tryz.zeroValue3
  t4 := Tryz.underlying4
  a4 := Tryz.isAgg4
  z4 := Tryz.sizeOf4
  v4 := Tryz.zeroValue4
  t5 := Tryz.underlying5
  a5 := Tryz.isAgg5
  z5 := Tryz.sizeOf5
  v5 := Tryz.zeroValue5
  t9 := Tryz.underlying9
  a9 := Tryz.isAgg9
  z9 := Tryz.sizeOf9
  v9 := Tryz.zeroValue9
  t20 := Tryz.underlying20
  a20 := Tryz.isAgg20
  z20 := Tryz.sizeOf20
  v20 := Tryz.zeroValue20
  t21 := Tryz.underlying21
  a21 := Tryz.isAgg21
  z21 := Tryz.sizeOf21
  v21 := Tryz.zeroValue21
  t37 := Tryz.underlying113
  a37 := Tryz.isAgg113
  z37 := Tryz.sizeOf113
  v37 := Tryz.zeroValue113
  t46 := Tryz.underlying263
  a46 := Tryz.isAgg263
  z46 := Tryz.sizeOf263
  v46 := Tryz.zeroValue263
  t51 := Tryz.underlying307
  a51 := Tryz.isAgg307
  z51 := Tryz.sizeOf307
  v51 := Tryz.zeroValue307
  t53 := Tryz.underlying268
  a53 := Tryz.isAgg268
  z53 := Tryz.sizeOf268
  v53 := Tryz.zeroValue268
  t75 := Tryz.underlying117
  a75 := Tryz.isAgg117
  z75 := Tryz.sizeOf117
  v75 := Tryz.zeroValue117
  t76 := Tryz.underlying118
  a76 := Tryz.isAgg118
  z76 := Tryz.sizeOf118
  v76 := Tryz.zeroValue118
  t85 := Tryz.underlying274
  a85 := Tryz.isAgg274
  z85 := Tryz.sizeOf274
  v85 := Tryz.zeroValue274
  t127 := Tryz.underlying195
  a127 := Tryz.isAgg195
  z127 := Tryz.sizeOf195
  v127 := Tryz.zeroValue195
  t143 := Tryz.underlying326
  a143 := Tryz.isAgg326
  z143 := Tryz.sizeOf326
  v143 := Tryz.zeroValue326
  t145 := Tryz.underlying328
  a145 := Tryz.isAgg328
  z145 := Tryz.sizeOf328
  v145 := Tryz.zeroValue328
  t167 := Tryz.underlying273
  a167 := Tryz.isAgg273
  z167 := Tryz.sizeOf273
  v167 := Tryz.zeroValue273
  t168 := Tryz.underlying276
  a168 := Tryz.isAgg276
  z168 := Tryz.sizeOf276
  v168 := Tryz.zeroValue276
  t171 := Tryz.underlying267
  a171 := Tryz.isAgg267
  z171 := Tryz.sizeOf267
  v171 := Tryz.zeroValue267
  t173 := Tryz.underlying271
  a173 := Tryz.isAgg271
  z173 := Tryz.sizeOf271
  v173 := Tryz.zeroValue271
  t175 := Tryz.underlying317
  a175 := Tryz.isAgg317
  z175 := Tryz.sizeOf317
  v175 := Tryz.zeroValue317
  t210 := Tryz.underlying320
  a210 := Tryz.isAgg320
  z210 := Tryz.sizeOf320
  v210 := Tryz.zeroValue320
  t212 := Tryz.underlying313
  a212 := Tryz.isAgg313
  z212 := Tryz.sizeOf313
  v212 := Tryz.zeroValue313
  t213 := Tryz.underlying314
  a213 := Tryz.isAgg314
  z213 := Tryz.sizeOf314
  t232 := Tryz.underlying335
  a232 := Tryz.isAgg335
  z232 := Tryz.sizeOf335
  v232 := Tryz.zeroValue335
  t233 := Tryz.underlying336
  a233 := Tryz.isAgg336
  z233 := Tryz.sizeOf336
  v233 := Tryz.zeroValue336
  g15 := by kernel_rfl
  g16 := by kernel_rfl
  g17 := by kernel_rfl
  g18 := by kernel_rfl
  g19 := by kernel_rfl
  t80 := Tryz.underlying123
  a80 := Tryz.isAgg123
  z80 := Tryz.sizeOf123
  v80 := Tryz.zeroValue123
  i0 := by kernel_rfl
  i2 := by kernel_rfl
  i3 := by kernel_rfl
  i4 := by kernel_rfl
  i5 := by kernel_rfl
  i9 := by kernel_rfl
  i20 := by kernel_rfl
  i21 := by kernel_rfl
  i37 := by kernel_rfl
  i46 := by kernel_rfl
  i51 := by kernel_rfl
  i53 := by kernel_rfl
  i75 := by kernel_rfl
  i76 := by kernel_rfl
  i80 := by kernel_rfl
  i85 := by kernel_rfl
  i127 := by kernel_rfl
  i143 := by kernel_rfl
  i145 := by kernel_rfl
  i167 := by kernel_rfl
  i168 := by kernel_rfl
  i171 := by kernel_rfl
  i173 := by kernel_rfl
  i175 := by kernel_rfl
  i210 := by kernel_rfl
  i212 := by kernel_rfl
  i232 := by kernel_rfl
  i233 := by kernel_rfl
  m15 := by kernel_rfl
  m16 := by kernel_rfl
  m17 := by kernel_rfl
  m18 := by kernel_rfl
  m19 := by kernel_rfl
  c0 := by kernel_rfl
  c2 := by kernel_rfl
  c3 := by kernel_rfl
  c4 := by kernel_rfl
  c5 := by kernel_rfl
  c9 := by kernel_rfl
  c20 := by kernel_rfl
  c21 := by kernel_rfl
  c37 := by kernel_rfl
  c46 := by kernel_rfl
  c51 := by kernel_rfl
  c53 := by kernel_rfl
  c75 := by kernel_rfl
  c76 := by kernel_rfl
  c80 := by kernel_rfl
  c85 := by kernel_rfl
  c127 := by kernel_rfl
  c143 := by kernel_rfl
  c145 := by kernel_rfl
  c167 := by kernel_rfl
  c168 := by kernel_rfl
  c171 := by kernel_rfl
  c173 := by kernel_rfl
  c175 := by kernel_rfl
  c210 := by kernel_rfl
  c212 := by kernel_rfl
  c213 := by kernel_rfl
  c232 := by kernel_rfl
  c233 := by kernel_rfl }
open Go.RowKit in
theorem Tryz.strconv_Atoi_ok (s : ByteArray) (hmax : s.size ≤ 9223372036854775806) (v : Int) (h : Lib.atoiAll s.data.toList = .ok v) (w : World) :
    Calls Tryz.prog 155 #[.string s] w fun e w' => e = .returned (.tuple #[.int .i64 v, .nilIface]) ∧ (w' = w ∨ ∃ t, w' = Lib.bytesWorld w 5 t) := Any.strconv_Atoi_ok Tryz.laysC172 s hmax v h w
def Tryz.lays145_ren : Go.Shelf.Ren := ⟨fun | 145 => 261 | 220 => 296 | 219 => 268 | 217 => 298 | 225 => 299 | 224 => 300 | 267 => 301 | 266 => 309 | 314 => 310 | n => n, fun | 9 => 9 | 4 => 4 | 59 => 279 | 3 => 3 | 5 => 5 | 46 => 263 | 146 => 308 | 51 => 307 | n => n, fun | 1 => 4 | n => n⟩
theorem Tryz.lays145 : Go.Proofs.Lays.n145 Tryz.prog Tryz.lays145_ren := ⟨by kernel_rfl,func261.trans (congrArg some (by kernel_rfl)),func298.trans (congrArg some (by kernel_rfl)),func268.trans (congrArg some (by kernel_rfl)),func296.trans (congrArg some (by kernel_rfl)),func300.trans (congrArg some (by kernel_rfl)),func299.trans (congrArg some (by kernel_rfl)),func309.trans (congrArg some (by kernel_rfl)),func301.trans (congrArg some (by kernel_rfl)),func310.trans (congrArg some (by kernel_rfl)),underlying3,isAgg3,sizeOf3,zeroValue3,underlying4,isAgg4,sizeOf4,zeroValue4,underlying5,isAgg5,sizeOf5,zeroValue5,underlying9,isAgg9,sizeOf9,zeroValue9,underlying263,isAgg263,sizeOf263,zeroValue263,underlying307,isAgg307,sizeOf307,zeroValue307,underlying279,isAgg279,sizeOf279,zeroValue279,underlying308,isAgg308,sizeOf308,zeroValue308,by kernel_rfl⟩
open Go.RowKit Go.Lib in
theorem Tryz.strings_Cut (s sep : ByteArray) (m : Int) (w : World) (hs : s.size < 4294967281) (hm : w.cell? ⟨4, 0, none⟩ = some (.int .i64 m)) :
    Calls Tryz.prog 261 #[.string s, .string sep] w fun e w' => e = .returned (.tuple #[.string ⟨(Lib.cut s.data.toList sep.data.toList).1.toArray⟩, .string ⟨(Lib.cut s.data.toList sep.data.toList).2.1.toArray⟩, .bool (Lib.cut s.data.toList sep.data.toList).2.2]) ∧ ∃ n, w' = w.drewN n := Any.strings_Cut Tryz.lays145 s sep m w hs hm
def Tryz.lays101_ren : Go.Shelf.Ren := ⟨fun | 101 => 156 | 208 => 214 | 206 => 159 | n => n, fun | 9 => 9 | 4 => 4 | 3 => 3 | n => n, fun | n => n⟩
theorem Tryz.lays101 : Go.Proofs.Lays.n101 Tryz.prog Tryz.lays101_ren := ⟨by kernel_rfl,func156.trans (congrArg some (by kernel_rfl)),func159.trans (congrArg some (by kernel_rfl)),func214.trans (congrArg some (by kernel_rfl)),underlying3,isAgg3,sizeOf3,zeroValue3,underlying4,isAgg4,sizeOf4,zeroValue4,underlying9,isAgg9,sizeOf9,zeroValue9⟩
open Go.RowKit Go.Lib in
theorem Tryz.strings_TrimPrefix (s p : ByteArray) (w : World) :
    Calls Tryz.prog 156 #[.string s, .string p] w fun e w' => e = .returned (.string ⟨(Lib.trimPrefix s.data.toList p.data.toList).toArray⟩) ∧ w' = w := Any.strings_TrimPrefix Tryz.lays101 s p w
def Tryz.lays146_ren : Go.Shelf.Ren := ⟨fun | 146 => 83 | 221 => 158 | 268 => 218 | 138 => 219 | 143 => 220 | 195 => 265 | 197 => 266 | 218 => 267 | 219 => 268 | 260 => 297 | 217 => 298 | 225 => 299 | 224 => 300 | 267 => 301 | 266 => 309 | 314 => 310 | n => n, fun | 9 => 9 | 31 => 129 | 3 => 3 | 4 => 4 | 0 => 0 | 105 => 283 | 21 => 21 | 5 => 5 | 46 => 263 | 119 => 329 | 139 => 332 | 138 => 331 | 146 => 308 | 51 => 307 | n => n, fun | 1 => 4 | 3 => 5 | 4 => 6 | n => n⟩
theorem Tryz.lays146 : Go.Proofs.Lays.n146 Tryz.prog Tryz.lays146_ren := ⟨by kernel_rfl,func219.trans (congrArg some (by kernel_rfl)),func220.trans (congrArg some (by kernel_rfl)),func83.trans (congrArg some (by kernel_rfl)),func265.trans (congrArg some (by kernel_rfl)),func266.trans (congrArg some (by kernel_rfl)),func298.trans (congrArg some (by kernel_rfl)),func267.trans (congrArg some (by kernel_rfl)),func268.trans (congrArg some (by kernel_rfl)),func158.trans (congrArg some (by kernel_rfl)),func300.trans (congrArg some (by kernel_rfl)),func299.trans (congrArg some (by kernel_rfl)),func297.trans (congrArg some (by kernel_rfl)),func309.trans (congrArg some (by kernel_rfl)),func301.trans (congrArg some (by kernel_rfl)),func218.trans (congrArg some (by kernel_rfl)),func310.trans (congrArg some (by kernel_rfl)),underlying0,isAgg0,sizeOf0,zeroValue0,underlying3,isAgg3,sizeOf3,zeroValue3,underlying4,isAgg4,sizeOf4,zeroValue4,underlying5,isAgg5,sizeOf5,zeroValue5,underlying9,isAgg9,sizeOf9,zeroValue9,underlying21,isAgg21,sizeOf21,zeroValue21,underlying129,isAgg129,sizeOf129,zeroValue129,underlying263,isAgg263,sizeOf263,zeroValue263,underlying307,isAgg307,sizeOf307,zeroValue307,underlying283,isAgg283,sizeOf283,zeroValue283,underlying329,isAgg329,sizeOf329,underlying331,isAgg331,sizeOf331,zeroValue331,underlying332,isAgg332,sizeOf332,zeroValue332,underlying308,isAgg308,sizeOf308,zeroValue308,by kernel_rfl,by kernel_rfl,by kernel_rfl⟩
open Go.RowKit Go.Lib in
theorem Tryz.strings_Split (s sep : ByteArray) (m : Int) (w : World) (hs : s.size < 4294967281) (hm : w.cell? ⟨4, 0, none⟩ = some (.int .i64 m)) (h1 : 1 ≤ sep.size) :
    Calls Tryz.prog 83 #[.string s, .string sep] w fun e w' =>
      e = .returned (.slice (some ⟨w.heap.size, 0, none⟩) (Lib.countB s sep + 1) (Lib.countB s sep + 1)) ∧ w' = w.alloc (.cells ((Lib.splitB sep 0 (Lib.countB s sep) s).map Value.string).toArray 9) := Any.strings_Split Tryz.lays146 (by kernel_rfl) s sep m w hs hm h1
def Tryz.lays105_ren : Go.Shelf.Ren := ⟨fun | 105 => 206 | 212 => 248 | 99 => 84 | 165 => 211 | 166 => 77 | 170 => 249 | 169 => 81 | 263 => 285 | 264 => 286 | 206 => 159 | 240 => 149 | 241 => 254 | 276 => 209 | 277 => 292 | n => n, fun | 9 => 9 | 3 => 3 | 4 => 4 | 20 => 20 | 0 => 0 | 46 => 263 | 109 => 264 | 5 => 5 | 72 => 115 | 76 => 118 | 51 => 307 | 146 => 308 | 53 => 268 | 148 => 310 | 70 => 112 | 37 => 113 | 75 => 117 | 127 => 195 | 164 => 238 | 80 => 123 | n => n, fun | n => n⟩
theorem Tryz.lays105 : Go.Proofs.Lays.n105 Tryz.prog Tryz.lays105_ren := ⟨by kernel_rfl,func84.trans (congrArg some (by kernel_rfl)),func206.trans (congrArg some (by kernel_rfl)),func211.trans (congrArg some (by kernel_rfl)),func77.trans (congrArg some (by kernel_rfl)),func81.trans (congrArg some (by kernel_rfl)),func249.trans (congrArg some (by kernel_rfl)),func159.trans (congrArg some (by kernel_rfl)),func248.trans (congrArg some (by kernel_rfl)),func149.trans (congrArg some (by kernel_rfl)),func254.trans (congrArg some (by kernel_rfl)),func285.trans (congrArg some (by kernel_rfl)),func286.trans (congrArg some (by kernel_rfl)),func209.trans (congrArg some (by kernel_rfl)),func292.trans (congrArg some (by kernel_rfl)),underlying0,isAgg0,sizeOf0,zeroValue0,underlying3,isAgg3,sizeOf3,zeroValue3,underlying4,isAgg4,sizeOf4,zeroValue4,underlying5,isAgg5,sizeOf5,zeroValue5,underlying9,isAgg9,sizeOf9,zeroValue9,underlying20,isAgg20,sizeOf20,zeroValue20,underlying113,isAgg113,sizeOf113,zeroValue113,underlying263,isAgg263,sizeOf263,zeroValue263,underlying307,isAgg307,sizeOf307,zeroValue307,underlying268,isAgg268,sizeOf268,zeroValue268,underlying112,isAgg112,sizeOf112,zeroValue112,underlying115,isAgg115,sizeOf115,zeroValue115,underlying117,isAgg117,sizeOf117,zeroValue117,underlying118,isAgg118,sizeOf118,zeroValue118,underlying264,isAgg264,sizeOf264,zeroValue264,underlying195,isAgg195,sizeOf195,zeroValue195,underlying308,isAgg308,sizeOf308,zeroValue308,underlying310,isAgg310,sizeOf310,zeroValue310,underlying238,isAgg238,sizeOf238,zeroValue238⟩
theorem Tryz.Builder_Extra_105 : Builder.Extra Tryz.prog Tryz.lays105_ren := {
  sizeBuilder := by kernel_rfl
  liesBuilder := by kernel_rfl
  t5 := Tryz.underlying5
  a5 := Tryz.isAgg5
  z5 := Tryz.sizeOf5
  v5 := Tryz.zeroValue5
  infoByte := by kernel_rfl
  cellsByte := by kernel_rfl
  sizeByte := by kernel_rfl
  neB5 := by decide }
open Go.RowKit Go.Lib in
theorem Tryz.strings_Repeat (s : ByteArray) (c : Nat) (w : World) (hc : c ≤ 9223372036854775807) (hlen : s.size * c ≤ 140737488355328) :
    Calls Tryz.prog 206 #[.string s, .int .i64 c] w fun e w' => e = .returned (.string ⟨(Lib.repeatL s.data.toList c).toArray⟩) ∧ Below w.heap.size w w' := Any.strings_Repeat Tryz.lays105 Tryz.Builder_Extra_105 s c w hc hlen
end Go.Proofs
