/- Contracts of library functions, as the shelf's tool lays them at this translation. -/
import Derived.Shelf.Strings.OnBuilder
import Derived.Shelf.Strings.Builder2
import Derived.Shelf.Strings.BuilderK
import Derived.Shelf.Strings.Cut
import Derived.Shelf.Strings.Split
import Derived.Shelf.Strings.Prefix
import Derived.Shelf.Strings.Repeat
import Derived.Shelf.Strings.SlTrimAscii
import Derived.Shelf.Small.Wraps
import Derived.Shelf.Strconv.Atoi
import Derived.Shelf.Strconv.AtoiAll
import Derived.Shelf.Strconv.Itoa3
import Derived.Shelf.LaysM
import Derived.Test.YtldflkomhbfceaaGreatDoorProg
namespace Go.Proofs
open Go.Shelf Tryz
def Tryz.lays169_ren : Go.Shelf.Ren := ⟨fun | 169 => 64 | n => n, fun | 70 => 107 | 9 => 9 | 0 => 0 | 72 => 110 | 37 => 108 | 127 => 187 | 3 => 3 | 5 => 5 | n => n, fun | n => n⟩
theorem Tryz.lays169 : Go.Proofs.Lays.n169 Tryz.prog Tryz.lays169_ren := ⟨by kernel_rfl,func64.trans (congrArg some (by kernel_rfl)),underlying0,isAgg0,sizeOf0,zeroValue0,underlying3,isAgg3,sizeOf3,zeroValue3,underlying9,isAgg9,sizeOf9,zeroValue9,underlying108,isAgg108,sizeOf108,zeroValue108,underlying107,isAgg107,sizeOf107,zeroValue107,underlying110,isAgg110,sizeOf110,zeroValue110,underlying187,isAgg187,sizeOf187,zeroValue187⟩
theorem Tryz.Builder_Extra_169 : Builder.Extra Tryz.prog Tryz.lays169_ren := {
  sizeBuilder := by kernel_rfl
  liesBuilder := by kernel_rfl
  t5 := Tryz.underlying5
  a5 := Tryz.isAgg5
  z5 := Tryz.sizeOf5
  v5 := Tryz.zeroValue5
  infoByte := by kernel_rfl
  cellsByte := by kernel_rfl
  sizeByte := by kernel_rfl
  neB5 := by decide }
def Tryz.lays156_ren : Go.Shelf.Ren := ⟨fun | 156 => 129 | 165 => 187 | 166 => 60 | 169 => 64 | 240 => 124 | 241 => 246 | 276 => 185 | 277 => 292 | n => n, fun | 31 => 124 | 9 => 9 | 3 => 3 | 4 => 4 | 0 => 0 | 20 => 20 | 72 => 110 | 76 => 113 | 70 => 107 | 37 => 108 | 75 => 112 | 127 => 187 | 164 => 222 | 5 => 5 | 80 => 118 | n => n, fun | n => n⟩
theorem Tryz.lays156 : Go.Proofs.Lays.n156 Tryz.prog Tryz.lays156_ren := ⟨by kernel_rfl,func129.trans (congrArg some (by kernel_rfl)),func187.trans (congrArg some (by kernel_rfl)),func60.trans (congrArg some (by kernel_rfl)),func64.trans (congrArg some (by kernel_rfl)),func124.trans (congrArg some (by kernel_rfl)),func246.trans (congrArg some (by kernel_rfl)),func185.trans (congrArg some (by kernel_rfl)),func292.trans (congrArg some (by kernel_rfl)),underlying0,isAgg0,sizeOf0,zeroValue0,underlying3,isAgg3,sizeOf3,zeroValue3,underlying4,isAgg4,sizeOf4,zeroValue4,underlying9,isAgg9,sizeOf9,zeroValue9,underlying20,isAgg20,sizeOf20,zeroValue20,underlying124,isAgg124,sizeOf124,zeroValue124,underlying108,isAgg108,sizeOf108,zeroValue108,underlying107,isAgg107,sizeOf107,zeroValue107,underlying110,isAgg110,sizeOf110,zeroValue110,underlying112,isAgg112,sizeOf112,zeroValue112,underlying113,isAgg113,sizeOf113,zeroValue113,underlying187,isAgg187,sizeOf187,zeroValue187,underlying222,isAgg222,sizeOf222,zeroValue222⟩
theorem Tryz.Builder_Extra_156 : Builder.Extra Tryz.prog Tryz.lays156_ren := {
  sizeBuilder := by kernel_rfl
  liesBuilder := by kernel_rfl
  t5 := Tryz.underlying5
  a5 := Tryz.isAgg5
  z5 := Tryz.sizeOf5
  v5 := Tryz.zeroValue5
  infoByte := by kernel_rfl
  cellsByte := by kernel_rfl
  sizeByte := by kernel_rfl
  neB5 := by decide }
open Go.RowKit in
theorem Tryz.strings_Join (bk o c : Nat) (xs : List ByteArray) (sep : ByteArray) (w : World) (hcells : ∀ (j : Nat) x, xs[j]? = some x → w.cell? ⟨bk, o + j, none⟩ = some (.string x)) (hbk : bk < w.heap.size) (hN : xs.length ≤ 140737488355328) (hcap : xs.length ≤ c) (hlen : (Lib.join (xs.map (·.data.toList)) sep.data.toList).length ≤ 140737488355328) :
    Calls Tryz.prog 129 #[.slice (some ⟨bk, o, none⟩) xs.length c, .string sep] w fun e w' => e = .returned (.string ⟨(Lib.join (xs.map (·.data.toList)) sep.data.toList).toArray⟩) ∧ Below w.heap.size w w' := Any.strings_Join Tryz.lays156 Tryz.Builder_Extra_156 bk o c xs sep w hcells hbk hN hcap hlen
def Tryz.lays160_ren : Go.Shelf.Ren := ⟨fun | 160 => 235 | 232 => 279 | 231 => 278 | 227 => 280 | 234 => 282 | 233 => 281 | 236 => 284 | 235 => 283 | 228 => 302 | 271 => 304 | 151 => 303 | 197 => 258 | 120 => 312 | 152 => 311 | 260 => 297 | 137 => 313 | 119 => 314 | 224 => 300 | 225 => 299 | 217 => 298 | 266 => 309 | n => n, fun | 9 => 9 | 4 => 4 | 3 => 3 | 5 => 5 | 117 => 309 | 116 => 308 | 0 => 0 | 124 => 312 | 21 => 21 | 105 => 279 | 46 => 252 | 119 => 330 | 139 => 333 | 138 => 332 | n => n, fun | 3 => 5 | 4 => 6 | n => n⟩
theorem Tryz.lays160 : Go.Proofs.Lays.n160 Tryz.prog Tryz.lays160_ren := ⟨by kernel_rfl,func314.trans (congrArg some (by kernel_rfl)),func312.trans (congrArg some (by kernel_rfl)),func313.trans (congrArg some (by kernel_rfl)),func303.trans (congrArg some (by kernel_rfl)),func311.trans (congrArg some (by kernel_rfl)),func235.trans (congrArg some (by kernel_rfl)),func258.trans (congrArg some (by kernel_rfl)),func298.trans (congrArg some (by kernel_rfl)),func300.trans (congrArg some (by kernel_rfl)),func299.trans (congrArg some (by kernel_rfl)),func280.trans (congrArg some (by kernel_rfl)),func302.trans (congrArg some (by kernel_rfl)),func278.trans (congrArg some (by kernel_rfl)),func279.trans (congrArg some (by kernel_rfl)),func281.trans (congrArg some (by kernel_rfl)),func282.trans (congrArg some (by kernel_rfl)),func283.trans (congrArg some (by kernel_rfl)),func284.trans (congrArg some (by kernel_rfl)),func297.trans (congrArg some (by kernel_rfl)),func309.trans (congrArg some (by kernel_rfl)),func304.trans (congrArg some (by kernel_rfl)),underlying0,isAgg0,sizeOf0,zeroValue0,underlying3,isAgg3,sizeOf3,zeroValue3,underlying4,isAgg4,sizeOf4,zeroValue4,underlying5,isAgg5,sizeOf5,zeroValue5,underlying9,isAgg9,sizeOf9,zeroValue9,underlying21,isAgg21,sizeOf21,zeroValue21,underlying252,isAgg252,sizeOf252,zeroValue252,underlying279,isAgg279,sizeOf279,zeroValue279,underlying308,isAgg308,sizeOf308,underlying309,isAgg309,sizeOf309,zeroValue309,underlying330,isAgg330,sizeOf330,underlying312,isAgg312,sizeOf312,zeroValue312,underlying332,isAgg332,sizeOf332,zeroValue332,underlying333,isAgg333,sizeOf333,zeroValue333,by kernel_rfl,by kernel_rfl⟩
def Tryz.lays122_ren : Go.Shelf.Ren := ⟨fun | 122 => 236 | 215 => 285 | n => n, fun | 3 => 3 | 4 => 4 | n => n, fun | n => n⟩
theorem Tryz.lays122 : Go.Proofs.Lays.n122 Tryz.prog Tryz.lays122_ren := ⟨by kernel_rfl,func236.trans (congrArg some (by kernel_rfl)),func285.trans (congrArg some (by kernel_rfl)),underlying3,isAgg3,sizeOf3,zeroValue3,underlying4,isAgg4,sizeOf4,zeroValue4⟩
open Go.RowKit in
theorem Tryz.cmp_Compare_int (x y : Int) (w : World) :
    Calls Tryz.prog 236 #[.int .i64 x, .int .i64 y] w fun e w' => e = .returned (.int .i64 (Lib.compareInt x y)) ∧ w' = w := Any.cmp_Compare_int Tryz.lays122 x y w
open Go.RowKit in
theorem Tryz.Builder_String_any_k (B b : Nat) (l : List UInt8) (w : World) (h : Lib.IsBuilderF 110 5 B b (Lib.byteCells l) w) (hBw : B ≤ w.heap.size) :
    Calls Tryz.prog 64 #[.pointer (some ⟨b, 0, none⟩)] w fun e w' => e = .returned (.string ⟨l.toArray⟩) ∧ (Lib.IsBuilderF 110 5 B b (Lib.byteCells l) w' ∧ Below B w w' ∧ Lib.OthersKept 5 (some b) w w') := Any.Builder_String_any_k Tryz.lays169 Tryz.Builder_Extra_169 B b l w h hBw
def Tryz.lays172_ren : Go.Shelf.Ren := ⟨fun | 172 => 130 | 244 => 188 | 245 => 189 | 247 => 247 | 279 => 248 | 280 => 249 | 281 => 250 | 282 => 251 | 287 => 293 | 316 => 294 | 171 => 61 | 205 => 295 | 321 => 307 | 322 => 308 | 243 => 125 | 246 => 186 | 283 => 242 | 284 => 243 | 285 => 244 | 286 => 245 | 129 => 288 | 317 => 287 | 318 => 289 | 319 => 290 | 320 => 291 | 337 => 305 | 338 => 306 | n => n, fun | 9 => 9 | 3 => 3 | 75 => 112 | 76 => 113 | 4 => 4 | 5 => 5 | 167 => 269 | 37 => 108 | 0 => 0 | 85 => 270 | 2 => 2 | 168 => 272 | 53 => 264 | 175 => 318 | 46 => 252 | 210 => 321 | 127 => 187 | 145 => 329 | 143 => 327 | 21 => 21 | 171 => 263 | 173 => 267 | 212 => 314 | 51 => 299 | 20 => 20 | 213 => 315 | 232 => 336 | 233 => 337 | 80 => 118 | n => n, fun | 15 => 2 | 16 => 3 | 17 => 1 | 18 => 7 | 19 => 8 | n => n⟩
theorem Tryz.lays172 : Go.Proofs.Lays.n172 Tryz.prog Tryz.lays172_ren := ⟨by kernel_rfl,func288.trans (congrArg some (by kernel_rfl)),func61.trans (congrArg some (by kernel_rfl)),func130.trans (congrArg some (by kernel_rfl)),func295.trans (congrArg some (by kernel_rfl)),func125.trans (congrArg some (by kernel_rfl)),func188.trans (congrArg some (by kernel_rfl)),func189.trans (congrArg some (by kernel_rfl)),func186.trans (congrArg some (by kernel_rfl)),func247.trans (congrArg some (by kernel_rfl)),func248.trans (congrArg some (by kernel_rfl)),func249.trans (congrArg some (by kernel_rfl)),func250.trans (congrArg some (by kernel_rfl)),func251.trans (congrArg some (by kernel_rfl)),func242.trans (congrArg some (by kernel_rfl)),func243.trans (congrArg some (by kernel_rfl)),func244.trans (congrArg some (by kernel_rfl)),func245.trans (congrArg some (by kernel_rfl)),func293.trans (congrArg some (by kernel_rfl)),func294.trans (congrArg some (by kernel_rfl)),func287.trans (congrArg some (by kernel_rfl)),func289.trans (congrArg some (by kernel_rfl)),func290.trans (congrArg some (by kernel_rfl)),func291.trans (congrArg some (by kernel_rfl)),func307.trans (congrArg some (by kernel_rfl)),func308.trans (congrArg some (by kernel_rfl)),func305.trans (congrArg some (by kernel_rfl)),func306.trans (congrArg some (by kernel_rfl)),underlying0,isAgg0,sizeOf0,zeroValue0,underlying2,isAgg2,sizeOf2,zeroValue2,underlying3,isAgg3,sizeOf3,zeroValue3,underlying4,isAgg4,sizeOf4,zeroValue4,underlying5,isAgg5,sizeOf5,zeroValue5,underlying9,isAgg9,sizeOf9,zeroValue9,underlying20,isAgg20,sizeOf20,zeroValue20,underlying21,isAgg21,sizeOf21,zeroValue21,underlying108,isAgg108,sizeOf108,zeroValue108,underlying252,isAgg252,sizeOf252,zeroValue252,underlying299,isAgg299,sizeOf299,zeroValue299,underlying264,isAgg264,sizeOf264,zeroValue264,underlying112,isAgg112,sizeOf112,zeroValue112,underlying113,isAgg113,sizeOf113,zeroValue113,underlying270,isAgg270,sizeOf270,zeroValue270,underlying187,isAgg187,sizeOf187,zeroValue187,underlying327,isAgg327,sizeOf327,zeroValue327,underlying329,isAgg329,sizeOf329,zeroValue329,underlying269,isAgg269,sizeOf269,zeroValue269,underlying272,isAgg272,sizeOf272,zeroValue272,underlying263,isAgg263,sizeOf263,zeroValue263,underlying267,isAgg267,sizeOf267,zeroValue267,underlying318,isAgg318,sizeOf318,zeroValue318,underlying321,isAgg321,sizeOf321,zeroValue321,underlying314,isAgg314,sizeOf314,zeroValue314,underlying315,isAgg315,sizeOf315,underlying336,isAgg336,sizeOf336,zeroValue336,underlying337,isAgg337,sizeOf337,zeroValue337,by kernel_rfl,by kernel_rfl,by kernel_rfl,by kernel_rfl,by kernel_rfl⟩
open Go.RowKit in
theorem Tryz.strconv_Atoi (s : ByteArray) (n : Int) (hl : s.size ≤ 18) (h : Lib.atoi s.data.toList = some n) (w : World) :
    Calls Tryz.prog 130 #[.string s] w fun e w' => e = .returned (.tuple #[.int .i64 n, .nilIface]) ∧ ∃ t, w' = Lib.bytesWorld w 5 t := Any.strconv_Atoi Tryz.lays172 s n hl h w
def Tryz.laysM171_ren : Go.Shelf.Ren := ⟨fun | 171 => 61 | 243 => 125 | 246 => 186 | 283 => 242 | 284 => 243 | 285 => 244 | 286 => 245 | 129 => 288 | 317 => 287 | 318 => 289 | 319 => 290 | 320 => 291 | 337 => 305 | 338 => 306 | n => n, fun | 3 => 3 | 9 => 9 | 2 => 2 | 4 => 4 | 171 => 263 | 0 => 0 | 53 => 264 | 37 => 108 | 5 => 5 | 173 => 267 | 212 => 314 | 51 => 299 | 20 => 20 | 213 => 315 | 46 => 252 | 232 => 336 | 233 => 337 | n => n, fun | 17 => 1 | 18 => 7 | 19 => 8 | n => n⟩
theorem Tryz.laysM171 : Go.Proofs.LaysM.n171 Tryz.prog Tryz.laysM171_ren := {
  mixed := by kernel_rfl
  f129 := Tryz.func288.trans (congrArg some (by kernel_rfl))
  f171 := Tryz.func61.trans (congrArg some (by kernel_rfl))
  f243 := Tryz.func125.trans (congrArg some (by kernel_rfl))
  f246 := Tryz.func186.trans (congrArg some (by kernel_rfl))
  f283 := Tryz.func242.trans (congrArg some (by kernel_rfl))
  f284 := Tryz.func243.trans (congrArg some (by kernel_rfl))
  f285 := Tryz.func244.trans (congrArg some (by kernel_rfl))
  f286 := Tryz.func245.trans (congrArg some (by kernel_rfl))
  f317 := Tryz.func287.trans (congrArg some (by kernel_rfl))
  f318 := Tryz.func289.trans (congrArg some (by kernel_rfl))
  f319 := Tryz.func290.trans (congrArg some (by kernel_rfl))
  f320 := Tryz.func291.trans (congrArg some (by kernel_rfl))
  f337 := Tryz.func305.trans (congrArg some (by kernel_rfl))
  f338 := Tryz.func306.trans (congrArg some (by kernel_rfl))
  t0 := Tryz.underlying0
  a0 := Tryz.isAgg0
  z0 := Tryz.sizeOf0
  v0 := Tryz.zeroValue0
  t2 := Tryz.underlying2
  a2 := Tryz.isAgg2
  z2 := Tryz.sizeOf2
  v2 := Tryz.zeroValue2
  t3 := Tryz.underlying3
  a3 := Tryz.isAgg3
  z3 := Tryz.sizeOf3
  v3 := Tryz.zeroValue3
  t4 := Tryz.underlying4
  a4 := Tryz.isAgg4
  z4 := Tryz.sizeOf4
  v4 := Tryz.zeroValue4
  t5 := Tryz.underlying5
  a5 := Tryz.isAgg5
  z5 := Tryz.sizeOf5
  v5 := Tryz.zeroValue5
  t9 := Tryz.underlying9
  a9 := Tryz.isAgg9
  z9 := Tryz.sizeOf9
  v9 := Tryz.zeroValue9
  t20 := Tryz.underlying20
  a20 := Tryz.isAgg20
  z20 := Tryz.sizeOf20
  v20 := Tryz.zeroValue20
  t37 := Tryz.underlying108
  a37 := Tryz.isAgg108
  z37 := Tryz.sizeOf108
  v37 := Tryz.zeroValue108
  t46 := Tryz.underlying252
  a46 := Tryz.isAgg252
  z46 := Tryz.sizeOf252
  v46 := Tryz.zeroValue252
  t51 := Tryz.underlying299
  a51 := Tryz.isAgg299
  z51 := Tryz.sizeOf299
  v51 := Tryz.zeroValue299
  t53 := Tryz.underlying264
  a53 := Tryz.isAgg264
  z53 := Tryz.sizeOf264
  v53 := Tryz.zeroValue264
  t171 := Tryz.underlying263
  a171 := Tryz.isAgg263
  z171 := Tryz.sizeOf263
  v171 := Tryz.zeroValue263
  t173 := Tryz.underlying267
  a173 := Tryz.isAgg267
  z173 := Tryz.sizeOf267
  v173 := Tryz.zeroValue267
  t212 := Tryz.underlying314
  a212 := Tryz.isAgg314
  z212 := Tryz.sizeOf314
  v212 := Tryz.zeroValue314
  t213 := Tryz.underlying315
  a213 := Tryz.isAgg315
  z213 := Tryz.sizeOf315
  t232 := Tryz.underlying336
  a232 := Tryz.isAgg336
  z232 := Tryz.sizeOf336
  v232 := Tryz.zeroValue336
  t233 := Tryz.underlying337
  a233 := Tryz.isAgg337
  z233 := Tryz.sizeOf337
  v233 := Tryz.zeroValue337
  g17 := by kernel_rfl
  g18 := by kernel_rfl
  g19 := by kernel_rfl
  i0 := by kernel_rfl
  i2 := by kernel_rfl
  i3 := by kernel_rfl
  i4 := by kernel_rfl
  i5 := by kernel_rfl
  i9 := by kernel_rfl
  i20 := by kernel_rfl
  i37 := by kernel_rfl
  i46 := by kernel_rfl
  i51 := by kernel_rfl
  i53 := by kernel_rfl
  i171 := by kernel_rfl
  i173 := by kernel_rfl
  i212 := by kernel_rfl
  i232 := by kernel_rfl
  i233 := by kernel_rfl
  m17 := by kernel_rfl
  m18 := by kernel_rfl
  m19 := by kernel_rfl }
open Go.RowKit Go.Sort Go.Lib in
theorem Tryz.strconv_Itoa (n : Int) (h0 : -9223372036854775808 ≤ n) (h1 : n ≤ 9223372036854775807) (w : World) (htab : Lib.TabIs Tryz.prog w "internal/strconv.uint64pow10" .u64 Lib.pow10Tab) :
    Calls Tryz.prog 61 #[.int .i64 n] w fun e w' => e = .returned (.string ⟨(Lib.itoa n).toArray⟩) ∧ ∃ k os, w' = grow (w.drewN k) os := Any.strconv_Itoa Tryz.laysM171 n h0 h1 w htab
def Tryz.lays171_ren : Go.Shelf.Ren := ⟨fun | 171 => 61 | 243 => 125 | 246 => 186 | 283 => 242 | 284 => 243 | 285 => 244 | 286 => 245 | 129 => 288 | 317 => 287 | 318 => 289 | 319 => 290 | 320 => 291 | 337 => 305 | 338 => 306 | n => n, fun | 3 => 3 | 9 => 9 | 2 => 2 | 4 => 4 | 171 => 263 | 0 => 0 | 53 => 264 | 37 => 108 | 5 => 5 | 173 => 267 | 212 => 314 | 51 => 299 | 20 => 20 | 213 => 315 | 46 => 252 | 232 => 336 | 233 => 337 | n => n, fun | 17 => 1 | 18 => 7 | 19 => 8 | n => n⟩
theorem Tryz.lays171 : Go.Proofs.Lays.n171 Tryz.prog Tryz.lays171_ren := ⟨by kernel_rfl,func288.trans (congrArg some (by kernel_rfl)),func61.trans (congrArg some (by kernel_rfl)),func125.trans (congrArg some (by kernel_rfl)),func186.trans (congrArg some (by kernel_rfl)),func242.trans (congrArg some (by kernel_rfl)),func243.trans (congrArg some (by kernel_rfl)),func244.trans (congrArg some (by kernel_rfl)),func245.trans (congrArg some (by kernel_rfl)),func287.trans (congrArg some (by kernel_rfl)),func289.trans (congrArg some (by kernel_rfl)),func290.trans (congrArg some (by kernel_rfl)),func291.trans (congrArg some (by kernel_rfl)),func305.trans (congrArg some (by kernel_rfl)),func306.trans (congrArg some (by kernel_rfl)),underlying0,isAgg0,sizeOf0,zeroValue0,underlying2,isAgg2,sizeOf2,zeroValue2,underlying3,isAgg3,sizeOf3,zeroValue3,underlying4,isAgg4,sizeOf4,zeroValue4,underlying5,isAgg5,sizeOf5,zeroValue5,underlying9,isAgg9,sizeOf9,zeroValue9,underlying20,isAgg20,sizeOf20,zeroValue20,underlying108,isAgg108,sizeOf108,zeroValue108,underlying252,isAgg252,sizeOf252,zeroValue252,underlying299,isAgg299,sizeOf299,zeroValue299,underlying264,isAgg264,sizeOf264,zeroValue264,underlying263,isAgg263,sizeOf263,zeroValue263,underlying267,isAgg267,sizeOf267,zeroValue267,underlying314,isAgg314,sizeOf314,zeroValue314,underlying315,isAgg315,sizeOf315,underlying336,isAgg336,sizeOf336,zeroValue336,underlying337,isAgg337,sizeOf337,zeroValue337,by kernel_rfl,by kernel_rfl,by kernel_rfl⟩
open Go.RowKit Go.Sort Go.Lib in
theorem Tryz.strconv_Itoa_small (i : Nat) (hi : i < 100) (w : World) :
    Calls Tryz.prog 61 #[.int .i64 i] w fun e w' => e = .returned (.string ⟨(Lib.decDigits i).toArray⟩) ∧ w' = w := Any.strconv_Itoa_small Tryz.lays171 i hi w
def Tryz.laysC172_ren : Go.Shelf.Ren := ⟨fun | 172 => 130 | 244 => 188 | 245 => 189 | 247 => 247 | 279 => 248 | 280 => 249 | 281 => 250 | 282 => 251 | 287 => 293 | 316 => 294 | 171 => 61 | 205 => 295 | 321 => 307 | 322 => 308 | 243 => 125 | 246 => 186 | 283 => 242 | 284 => 243 | 285 => 244 | 286 => 245 | 129 => 288 | 317 => 287 | 318 => 289 | 319 => 290 | 320 => 291 | 337 => 305 | 338 => 306 | n => n, fun | 9 => 9 | 3 => 3 | 75 => 112 | 76 => 113 | 4 => 4 | 5 => 5 | 167 => 269 | 37 => 108 | 0 => 0 | 85 => 270 | 2 => 2 | 168 => 272 | 53 => 264 | 175 => 318 | 46 => 252 | 210 => 321 | 127 => 187 | 145 => 329 | 143 => 327 | 21 => 21 | 171 => 263 | 173 => 267 | 212 => 314 | 51 => 299 | 20 => 20 | 213 => 315 | 232 => 336 | 233 => 337 | 80 => 118 | n => n, fun | 15 => 2 | 16 => 3 | 17 => 1 | 18 => 7 | 19 => 8 | n => n⟩
theorem Tryz.laysC172 : Go.Proofs.LaysC.n172 Tryz.prog Tryz.laysC172_ren := {
  mixed := by kernel_rfl
  f129 := Tryz.func288.trans (congrArg some (by kernel_rfl))
  f171 := Tryz.func61.trans (congrArg some (by kernel_rfl))
  f172 := Tryz.func130.trans (congrArg some (by kernel_rfl))
  f205 := Tryz.func295.trans (congrArg some (by kernel_rfl))
  f243 := Tryz.func125.trans (congrArg some (by kernel_rfl))
  f244 := Tryz.func188.trans (congrArg some (by kernel_rfl))
  f245 := Tryz.func189.trans (congrArg some (by kernel_rfl))
  f246 := Tryz.func186.trans (congrArg some (by kernel_rfl))
  f247 := Tryz.func247.trans (congrArg some (by kernel_rfl))
  f279 := Tryz.func248.trans (congrArg some (by kernel_rfl))
  f280 := Tryz.func249.trans (congrArg some (by kernel_rfl))
  f281 := Tryz.func250.trans (congrArg some (by kernel_rfl))
  f282 := Tryz.func251.trans (congrArg some (by kernel_rfl))
  f283 := Tryz.func242.trans (congrArg some (by kernel_rfl))
  f284 := Tryz.func243.trans (congrArg some (by kernel_rfl))
  f285 := Tryz.func244.trans (congrArg some (by kernel_rfl))
  f286 := Tryz.func245.trans (congrArg some (by kernel_rfl))
  f287 := Tryz.func293.trans (congrArg some (by kernel_rfl))
  f316 := Tryz.func294.trans (congrArg some (by kernel_rfl))
  f317 := Tryz.func287.trans (congrArg some (by kernel_rfl))
  f318 := Tryz.func289.trans (congrArg some (by kernel_rfl))
  f319 := Tryz.func290.trans (congrArg some (by kernel_rfl))
  f320 := Tryz.func291.trans (congrArg some (by kernel_rfl))
  f321 := Tryz.func307.trans (congrArg some (by kernel_rfl))
  f322 := Tryz.func308.trans (congrArg some (by kernel_rfl))
  f337 := Tryz.func305.trans (congrArg some (by kernel_rfl))
  f338 := Tryz.func306.trans (congrArg some (by kernel_rfl))
  t0 := Tryz.underlying0
  a0 := Tryz.isAgg0
  z0 := Tryz.sizeOf0
  v0 := Tryz.zeroValue0
  t2 := Tryz.underlying2
  a2 := Tryz.isAgg2
  z2 := Tryz.sizeOf2
  v2 := Tryz.zeroValue2
  t3 := Tryz.underlying3
  a3 := Tryz.isAgg3
  z3 := Tryz.sizeOf3
  v3 := Tryz.zeroValue3
  t4 := Tryz.underlying4
  a4 := Tryz.isAgg4
  z4 := Tryz.sizeOf4
  v4 := Tryz.zeroValue4
  t5 := Tryz.underlying5
  a5 := Tryz.isAgg5
  z5 := Tryz.sizeOf5
  v5 := Tryz.zeroValue5
  t9 := Tryz.underlying9
  a9 := Tryz.isAgg9
  z9 := Tryz.sizeOf9
  v9 := Tryz.zeroValue9
  t20 := Tryz.underlying20
  a20 := Tryz.isAgg20
  z20 := Tryz.sizeOf20
  v20 := Tryz.zeroValue20
  t21 := Tryz.underlying21
  a21 := Tryz.isAgg21
  z21 := Tryz.sizeOf21
  v21 := Tryz.zeroValue21
  t37 := Tryz.underlying108
  a37 := Tryz.isAgg108
  z37 := Tryz.sizeOf108
  v37 := Tryz.zeroValue108
  t46 := Tryz.underlying252
  a46 := Tryz.isAgg252
  z46 := Tryz.sizeOf252
  v46 := Tryz.zeroValue252
  t51 := Tryz.underlying299
  a51 := Tryz.isAgg299
  z51 := Tryz.sizeOf299
  v51 := Tryz.zeroValue299
  t53 := Tryz.underlying264
  a53 := Tryz.isAgg264
  z53 := Tryz.sizeOf264
  v53 := Tryz.zeroValue264
  t75 := Tryz.underlying112
  a75 := Tryz.isAgg112
  z75 := Tryz.sizeOf112
  v75 := Tryz.zeroValue112
  t76 := Tryz.underlying113
  a76 := Tryz.isAgg113
  z76 := Tryz.sizeOf113
  v76 := Tryz.zeroValue113
  t85 := Tryz.underlying270
  a85 := Tryz.isAgg270
  z85 := Tryz.sizeOf270
  v85 := Tryz.zeroValue270
  t127 := Tryz.underlying187
  a127 := Tryz.isAgg187
  z127 := Tryz.sizeOf187
  v127 := Tryz.zeroValue187
  t143 := Tryz.underlying327
  a143 := Tryz.isAgg327
  z143 := Tryz.sizeOf327
  v143 := Tryz.zeroValue327
  t145 := Tryz.underlying329
  a145 := Tryz.isAgg329
  z145 := Tryz.sizeOf329
  v145 := Tryz.zeroValue329
  t167 := Tryz.underlying269
  a167 := Tryz.isAgg269
  z167 := Tryz.sizeOf269
  v167 := Tryz.zeroValue269
  t168 := Tryz.underlying272
  a168 := Tryz.isAgg272
  z168 := Tryz.sizeOf272
  v168 := Tryz.zeroValue272
  t171 := Tryz.underlying263
  a171 := Tryz.isAgg263
  z171 := Tryz.sizeOf263
  v171 := Tryz.zeroValue263
  t173 := Tryz.underlying267
  a173 := Tryz.isAgg267
  z173 := Tryz.sizeOf267
  v173 := Tryz.zeroValue267
  t175 := Tryz.underlying318
  a175 := Tryz.isAgg318
  z175 := Tryz.sizeOf318
  v175 := Tryz.zeroValue318
  t210 := Tryz.underlying321
  a210 := Tryz.isAgg321
  z210 := Tryz.sizeOf321
  v210 := Tryz.zeroValue321
  t212 := Tryz.underlying314
  a212 := Tryz.isAgg314
  z212 := Tryz.sizeOf314
  v212 := Tryz.zeroValue314
  t213 := Tryz.underlying315
  a213 := Tryz.isAgg315
  z213 := Tryz.sizeOf315
  t232 := Tryz.underlying336
  a232 := Tryz.isAgg336
  z232 := Tryz.sizeOf336
  v232 := Tryz.zeroValue336
  t233 := Tryz.underlying337
  a233 := Tryz.isAgg337
  z233 := Tryz.sizeOf337
  v233 := Tryz.zeroValue337
  g15 := by kernel_rfl
  g16 := by kernel_rfl
  g17 := by kernel_rfl
  g18 := by kernel_rfl
  g19 := by kernel_rfl
  t80 := Tryz.underlying118
  a80 := Tryz.isAgg118
  z80 := Tryz.sizeOf118
  v80 := Tryz.zeroValue118
  i0 := by kernel_rfl
  i2 := by kernel_rfl
  i3 := by kernel_rfl
  i4 := by kernel_rfl
  i5 := by kernel_rfl
  i9 := by kernel_rfl
  i20 := by kernel_rfl
  i21 := by kernel_rfl
  i37 := by kernel_rfl
  i46 := by kernel_rfl
  i51 := by kernel_rfl
  i53 := by kernel_rfl
  i75 := by kernel_rfl
  i76 := by kernel_rfl
  i80 := by kernel_rfl
  i85 := by kernel_rfl
  i127 := by kernel_rfl
  i143 := by kernel_rfl
  i145 := by kernel_rfl
  i167 := by kernel_rfl
  i168 := by kernel_rfl
  i171 := by kernel_rfl
  i173 := by kernel_rfl
  i175 := by kernel_rfl
  i210 := by kernel_rfl
  i212 := by kernel_rfl
  i232 := by kernel_rfl
  i233 := by kernel_rfl
  m15 := by kernel_rfl
  m16 := by kernel_rfl
  m17 := by kernel_rfl
  m18 := by kernel_rfl
  m19 := by kernel_rfl
  c0 := by kernel_rfl
  c2 := by kernel_rfl
  c3 := by kernel_rfl
  c4 := by kernel_rfl
  c5 := by kernel_rfl
  c9 := by kernel_rfl
  c20 := by kernel_rfl
  c21 := by kernel_rfl
  c37 := by kernel_rfl
  c46 := by kernel_rfl
  c51 := by kernel_rfl
  c53 := by kernel_rfl
  c75 := by kernel_rfl
  c76 := by kernel_rfl
  c80 := by kernel_rfl
  c85 := by kernel_rfl
  c127 := by kernel_rfl
  c143 := by kernel_rfl
  c145 := by kernel_rfl
  c167 := by kernel_rfl
  c168 := by kernel_rfl
  c171 := by kernel_rfl
  c173 := by kernel_rfl
  c175 := by kernel_rfl
  c210 := by kernel_rfl
  c212 := by kernel_rfl
  c213 := by kernel_rfl
  c232 := by kernel_rfl
  c233 := by kernel_rfl }
open Go.RowKit in
theorem Tryz.strconv_Atoi_ok (s : ByteArray) (hmax : s.size ≤ 9223372036854775806) (v : Int) (h : Lib.atoiAll s.data.toList = .ok v) (w : World) :
    Calls Tryz.prog 130 #[.string s] w fun e w' => e = .returned (.tuple #[.int .i64 v, .nilIface]) ∧ (w' = w ∨ ∃ t, w' = Lib.bytesWorld w 5 t) := Any.strconv_Atoi_ok Tryz.laysC172 s hmax v h w
def Tryz.lays145_ren : Go.Shelf.Ren := ⟨fun | 145 => 253 | 220 => 296 | 219 => 260 | 217 => 298 | 225 => 299 | 224 => 300 | 267 => 301 | 266 => 309 | 314 => 310 | n => n, fun | 9 => 9 | 4 => 4 | 59 => 275 | 3 => 3 | 5 => 5 | 46 => 252 | 146 => 300 | 51 => 299 | n => n, fun | 1 => 4 | n => n⟩
theorem Tryz.lays145 : Go.Proofs.Lays.n145 Tryz.prog Tryz.lays145_ren := ⟨by kernel_rfl,func253.trans (congrArg some (by kernel_rfl)),func298.trans (congrArg some (by kernel_rfl)),func260.trans (congrArg some (by kernel_rfl)),func296.trans (congrArg some (by kernel_rfl)),func300.trans (congrArg some (by kernel_rfl)),func299.trans (congrArg some (by kernel_rfl)),func309.trans (congrArg some (by kernel_rfl)),func301.trans (congrArg some (by kernel_rfl)),func310.trans (congrArg some (by kernel_rfl)),underlying3,isAgg3,sizeOf3,zeroValue3,underlying4,isAgg4,sizeOf4,zeroValue4,underlying5,isAgg5,sizeOf5,zeroValue5,underlying9,isAgg9,sizeOf9,zeroValue9,underlying252,isAgg252,sizeOf252,zeroValue252,underlying299,isAgg299,sizeOf299,zeroValue299,underlying275,isAgg275,sizeOf275,zeroValue275,underlying300,isAgg300,sizeOf300,zeroValue300,by kernel_rfl⟩
open Go.RowKit Go.Lib in
theorem Tryz.strings_Cut (s sep : ByteArray) (m : Int) (w : World) (hs : s.size < 4294967281) (hm : w.cell? ⟨4, 0, none⟩ = some (.int .i64 m)) :
    Calls Tryz.prog 253 #[.string s, .string sep] w fun e w' => e = .returned (.tuple #[.string ⟨(Lib.cut s.data.toList sep.data.toList).1.toArray⟩, .string ⟨(Lib.cut s.data.toList sep.data.toList).2.1.toArray⟩, .bool (Lib.cut s.data.toList sep.data.toList).2.2]) ∧ ∃ n, w' = w.drewN n := Any.strings_Cut Tryz.lays145 s sep m w hs hm
def Tryz.lays101_ren : Go.Shelf.Ren := ⟨fun | 101 => 131 | 208 => 190 | 206 => 134 | n => n, fun | 9 => 9 | 4 => 4 | 3 => 3 | n => n, fun | n => n⟩
theorem Tryz.lays101 : Go.Proofs.Lays.n101 Tryz.prog Tryz.lays101_ren := ⟨by kernel_rfl,func131.trans (congrArg some (by kernel_rfl)),func134.trans (congrArg some (by kernel_rfl)),func190.trans (congrArg some (by kernel_rfl)),underlying3,isAgg3,sizeOf3,zeroValue3,underlying4,isAgg4,sizeOf4,zeroValue4,underlying9,isAgg9,sizeOf9,zeroValue9⟩
open Go.RowKit Go.Lib in
theorem Tryz.strings_TrimPrefix (s p : ByteArray) (w : World) :
    Calls Tryz.prog 131 #[.string s, .string p] w fun e w' => e = .returned (.string ⟨(Lib.trimPrefix s.data.toList p.data.toList).toArray⟩) ∧ w' = w := Any.strings_TrimPrefix Tryz.lays101 s p w
def Tryz.lays146_ren : Go.Shelf.Ren := ⟨fun | 146 => 66 | 221 => 133 | 268 => 194 | 138 => 195 | 143 => 196 | 195 => 257 | 197 => 258 | 218 => 259 | 219 => 260 | 260 => 297 | 217 => 298 | 225 => 299 | 224 => 300 | 267 => 301 | 266 => 309 | 314 => 310 | n => n, fun | 9 => 9 | 31 => 124 | 3 => 3 | 4 => 4 | 0 => 0 | 105 => 279 | 21 => 21 | 5 => 5 | 46 => 252 | 119 => 330 | 139 => 333 | 138 => 332 | 146 => 300 | 51 => 299 | n => n, fun | 1 => 4 | 3 => 5 | 4 => 6 | n => n⟩
theorem Tryz.lays146 : Go.Proofs.Lays.n146 Tryz.prog Tryz.lays146_ren := ⟨by kernel_rfl,func195.trans (congrArg some (by kernel_rfl)),func196.trans (congrArg some (by kernel_rfl)),func66.trans (congrArg some (by kernel_rfl)),func257.trans (congrArg some (by kernel_rfl)),func258.trans (congrArg some (by kernel_rfl)),func298.trans (congrArg some (by kernel_rfl)),func259.trans (congrArg some (by kernel_rfl)),func260.trans (congrArg some (by kernel_rfl)),func133.trans (congrArg some (by kernel_rfl)),func300.trans (congrArg some (by kernel_rfl)),func299.trans (congrArg some (by kernel_rfl)),func297.trans (congrArg some (by kernel_rfl)),func309.trans (congrArg some (by kernel_rfl)),func301.trans (congrArg some (by kernel_rfl)),func194.trans (congrArg some (by kernel_rfl)),func310.trans (congrArg some (by kernel_rfl)),underlying0,isAgg0,sizeOf0,zeroValue0,underlying3,isAgg3,sizeOf3,zeroValue3,underlying4,isAgg4,sizeOf4,zeroValue4,underlying5,isAgg5,sizeOf5,zeroValue5,underlying9,isAgg9,sizeOf9,zeroValue9,underlying21,isAgg21,sizeOf21,zeroValue21,underlying124,isAgg124,sizeOf124,zeroValue124,underlying252,isAgg252,sizeOf252,zeroValue252,underlying299,isAgg299,sizeOf299,zeroValue299,underlying279,isAgg279,sizeOf279,zeroValue279,underlying330,isAgg330,sizeOf330,underlying332,isAgg332,sizeOf332,zeroValue332,underlying333,isAgg333,sizeOf333,zeroValue333,underlying300,isAgg300,sizeOf300,zeroValue300,by kernel_rfl,by kernel_rfl,by kernel_rfl⟩
open Go.RowKit Go.Lib in
theorem Tryz.strings_Split (s sep : ByteArray) (m : Int) (w : World) (hs : s.size < 4294967281) (hm : w.cell? ⟨4, 0, none⟩ = some (.int .i64 m)) (h1 : 1 ≤ sep.size) :
    Calls Tryz.prog 66 #[.string s, .string sep] w fun e w' =>
      e = .returned (.slice (some ⟨w.heap.size, 0, none⟩) (Lib.countB s sep + 1) (Lib.countB s sep + 1)) ∧ w' = w.alloc (.cells ((Lib.splitB sep 0 (Lib.countB s sep) s).map Value.string).toArray 9) := Any.strings_Split Tryz.lays146 (by kernel_rfl) s sep m w hs hm h1
def Tryz.lays105_ren : Go.Shelf.Ren := ⟨fun | 105 => 156 | 212 => 226 | 99 => 67 | 165 => 187 | 166 => 60 | 170 => 227 | 169 => 64 | 263 => 273 | 264 => 274 | 206 => 134 | 240 => 124 | 241 => 246 | 276 => 185 | 277 => 292 | n => n, fun | 9 => 9 | 3 => 3 | 4 => 4 | 20 => 20 | 0 => 0 | 46 => 252 | 109 => 253 | 5 => 5 | 72 => 110 | 76 => 113 | 51 => 299 | 146 => 300 | 53 => 264 | 148 => 302 | 70 => 107 | 37 => 108 | 75 => 112 | 127 => 187 | 164 => 222 | 80 => 118 | n => n, fun | n => n⟩
theorem Tryz.lays105 : Go.Proofs.Lays.n105 Tryz.prog Tryz.lays105_ren := ⟨by kernel_rfl,func67.trans (congrArg some (by kernel_rfl)),func156.trans (congrArg some (by kernel_rfl)),func187.trans (congrArg some (by kernel_rfl)),func60.trans (congrArg some (by kernel_rfl)),func64.trans (congrArg some (by kernel_rfl)),func227.trans (congrArg some (by kernel_rfl)),func134.trans (congrArg some (by kernel_rfl)),func226.trans (congrArg some (by kernel_rfl)),func124.trans (congrArg some (by kernel_rfl)),func246.trans (congrArg some (by kernel_rfl)),func273.trans (congrArg some (by kernel_rfl)),func274.trans (congrArg some (by kernel_rfl)),func185.trans (congrArg some (by kernel_rfl)),func292.trans (congrArg some (by kernel_rfl)),underlying0,isAgg0,sizeOf0,zeroValue0,underlying3,isAgg3,sizeOf3,zeroValue3,underlying4,isAgg4,sizeOf4,zeroValue4,underlying5,isAgg5,sizeOf5,zeroValue5,underlying9,isAgg9,sizeOf9,zeroValue9,underlying20,isAgg20,sizeOf20,zeroValue20,underlying108,isAgg108,sizeOf108,zeroValue108,underlying252,isAgg252,sizeOf252,zeroValue252,underlying299,isAgg299,sizeOf299,zeroValue299,underlying264,isAgg264,sizeOf264,zeroValue264,underlying107,isAgg107,sizeOf107,zeroValue107,underlying110,isAgg110,sizeOf110,zeroValue110,underlying112,isAgg112,sizeOf112,zeroValue112,underlying113,isAgg113,sizeOf113,zeroValue113,underlying253,isAgg253,sizeOf253,zeroValue253,underlying187,isAgg187,sizeOf187,zeroValue187,underlying300,isAgg300,sizeOf300,zeroValue300,underlying302,isAgg302,sizeOf302,zeroValue302,underlying222,isAgg222,sizeOf222,zeroValue222⟩
theorem Tryz.Builder_Extra_105 : Builder.Extra Tryz.prog Tryz.lays105_ren := {
  sizeBuilder := by kernel_rfl
  liesBuilder := by kernel_rfl
  t5 := Tryz.underlying5
  a5 := Tryz.isAgg5
  z5 := Tryz.sizeOf5
  v5 := Tryz.zeroValue5
  infoByte := by kernel_rfl
  cellsByte := by kernel_rfl
  sizeByte := by kernel_rfl
  neB5 := by decide }
open Go.RowKit Go.Lib in
theorem Tryz.strings_Repeat (s : ByteArray) (c : Nat) (w : World) (hc : c ≤ 9223372036854775807) (hlen : s.size * c ≤ 140737488355328) :
    Calls Tryz.prog 156 #[.string s, .int .i64 c] w fun e w' => e = .returned (.string ⟨(Lib.repeatL s.data.toList c).toArray⟩) ∧ Below w.heap.size w w' := Any.strings_Repeat Tryz.lays105 Tryz.Builder_Extra_105 s c w hc hlen
end Go.Proofs
