/- Contracts of library functions, as the shelf's tool lays them at this translation. -/
import Derived.Shelf.Strings.OnBuilder
import Derived.Shelf.Strings.Builder2
import Derived.Shelf.Strings.BuilderK
import Derived.Shelf.Strings.Cut
import Derived.Shelf.Strings.Split
import Derived.Shelf.Strings.Prefix
import Derived.Shelf.Strings.Repeat
import Derived.Shelf.Strings.SlTrimAscii
import Derived.Shelf.Small.Wraps
import Derived.Shelf.Strconv.Atoi
import Derived.Shelf.Strconv.AtoiAll
import Derived.Shelf.Strconv.Itoa3
import Derived.Shelf.LaysM
import Derived.Test.YtojcellmcbnmeaaGreatDoorProg
namespace Go.Proofs
open Go.Shelf Tryz
def Tryz.lays169_ren : Go.Shelf.Ren := ⟨fun | 169 => 71 | n => n, fun | 70 => 104 | 9 => 9 | 0 => 0 | 72 => 107 | 37 => 105 | 127 => 188 | 3 => 3 | 5 => 5 | n => n, fun | n => n⟩
theorem Tryz.lays169 : Go.Proofs.Lays.n169 Tryz.prog Tryz.lays169_ren := ⟨by kernel_rfl,func71.trans (congrArg some (by kernel_rfl)),underlying0,isAgg0,sizeOf0,zeroValue0,underlying3,isAgg3,sizeOf3,zeroValue3,underlying9,isAgg9,sizeOf9,zeroValue9,underlying105,isAgg105,sizeOf105,zeroValue105,underlying104,isAgg104,sizeOf104,zeroValue104,underlying107,isAgg107,sizeOf107,zeroValue107,underlying188,isAgg188,sizeOf188,zeroValue188⟩
theorem Tryz.Builder_Extra_169 : Builder.Extra Tryz.prog Tryz.lays169_ren := {
  sizeBuilder := by kernel_rfl
  liesBuilder := by kernel_rfl
  t5 := Tryz.underlying5
  a5 := Tryz.isAgg5
  z5 := Tryz.sizeOf5
  v5 := Tryz.zeroValue5
  infoByte := by kernel_rfl
  cellsByte := by kernel_rfl
  sizeByte := by kernel_rfl
  neB5 := by decide }
def Tryz.lays156_ren : Go.Shelf.Ren := ⟨fun | 156 => 148 | 165 => 213 | 166 => 67 | 169 => 71 | 240 => 143 | 241 => 273 | 276 => 211 | 277 => 314 | n => n, fun | 31 => 121 | 9 => 9 | 3 => 3 | 4 => 4 | 0 => 0 | 20 => 20 | 72 => 107 | 76 => 110 | 70 => 104 | 37 => 105 | 75 => 109 | 127 => 188 | 164 => 226 | 5 => 5 | 80 => 115 | n => n, fun | n => n⟩
theorem Tryz.lays156 : Go.Proofs.Lays.n156 Tryz.prog Tryz.lays156_ren := ⟨by kernel_rfl,func148.trans (congrArg some (by kernel_rfl)),func213.trans (congrArg some (by kernel_rfl)),func67.trans (congrArg some (by kernel_rfl)),func71.trans (congrArg some (by kernel_rfl)),func143.trans (congrArg some (by kernel_rfl)),func273.trans (congrArg some (by kernel_rfl)),func211.trans (congrArg some (by kernel_rfl)),func314.trans (congrArg some (by kernel_rfl)),underlying0,isAgg0,sizeOf0,zeroValue0,underlying3,isAgg3,sizeOf3,zeroValue3,underlying4,isAgg4,sizeOf4,zeroValue4,underlying9,isAgg9,sizeOf9,zeroValue9,underlying20,isAgg20,sizeOf20,zeroValue20,underlying121,isAgg121,sizeOf121,zeroValue121,underlying105,isAgg105,sizeOf105,zeroValue105,underlying104,isAgg104,sizeOf104,zeroValue104,underlying107,isAgg107,sizeOf107,zeroValue107,underlying109,isAgg109,sizeOf109,zeroValue109,underlying110,isAgg110,sizeOf110,zeroValue110,underlying188,isAgg188,sizeOf188,zeroValue188,underlying226,isAgg226,sizeOf226,zeroValue226⟩
theorem Tryz.Builder_Extra_156 : Builder.Extra Tryz.prog Tryz.lays156_ren := {
  sizeBuilder := by kernel_rfl
  liesBuilder := by kernel_rfl
  t5 := Tryz.underlying5
  a5 := Tryz.isAgg5
  z5 := Tryz.sizeOf5
  v5 := Tryz.zeroValue5
  infoByte := by kernel_rfl
  cellsByte := by kernel_rfl
  sizeByte := by kernel_rfl
  neB5 := by decide }
open Go.RowKit in
theorem Tryz.strings_Join (bk o c : Nat) (xs : List ByteArray) (sep : ByteArray) (w : World) (hcells : ∀ (j : Nat) x, xs[j]? = some x → w.cell? ⟨bk, o + j, none⟩ = some (.string x)) (hbk : bk < w.heap.size) (hN : xs.length ≤ 140737488355328) (hcap : xs.length ≤ c) (hlen : (Lib.join (xs.map (·.data.toList)) sep.data.toList).length ≤ 140737488355328) :
    Calls Tryz.prog 148 #[.slice (some ⟨bk, o, none⟩) xs.length c, .string sep] w fun e w' => e = .returned (.string ⟨(Lib.join (xs.map (·.data.toList)) sep.data.toList).toArray⟩) ∧ Below w.heap.size w w' := Any.strings_Join Tryz.lays156 Tryz.Builder_Extra_156 bk o c xs sep w hcells hbk hN hcap hlen
def Tryz.lays160_ren : Go.Shelf.Ren := ⟨fun | 160 => 262 | 232 => 301 | 231 => 300 | 227 => 302 | 234 => 304 | 233 => 303 | 236 => 306 | 235 => 305 | 228 => 324 | 271 => 326 | 151 => 325 | 197 => 285 | 120 => 334 | 152 => 333 | 260 => 319 | 137 => 335 | 119 => 336 | 224 => 322 | 225 => 321 | 217 => 320 | 266 => 331 | n => n, fun | 9 => 9 | 4 => 4 | 3 => 3 | 5 => 5 | 117 => 312 | 116 => 311 | 0 => 0 | 124 => 315 | 21 => 21 | 105 => 286 | 46 => 250 | 119 => 333 | 139 => 336 | 138 => 335 | n => n, fun | 3 => 5 | 4 => 6 | n => n⟩
theorem Tryz.lays160 : Go.Proofs.Lays.n160 Tryz.prog Tryz.lays160_ren := ⟨by kernel_rfl,func336.trans (congrArg some (by kernel_rfl)),func334.trans (congrArg some (by kernel_rfl)),func335.trans (congrArg some (by kernel_rfl)),func325.trans (congrArg some (by kernel_rfl)),func333.trans (congrArg some (by kernel_rfl)),func262.trans (congrArg some (by kernel_rfl)),func285.trans (congrArg some (by kernel_rfl)),func320.trans (congrArg some (by kernel_rfl)),func322.trans (congrArg some (by kernel_rfl)),func321.trans (congrArg some (by kernel_rfl)),func302.trans (congrArg some (by kernel_rfl)),func324.trans (congrArg some (by kernel_rfl)),func300.trans (congrArg some (by kernel_rfl)),func301.trans (congrArg some (by kernel_rfl)),func303.trans (congrArg some (by kernel_rfl)),func304.trans (congrArg some (by kernel_rfl)),func305.trans (congrArg some (by kernel_rfl)),func306.trans (congrArg some (by kernel_rfl)),func319.trans (congrArg some (by kernel_rfl)),func331.trans (congrArg some (by kernel_rfl)),func326.trans (congrArg some (by kernel_rfl)),underlying0,isAgg0,sizeOf0,zeroValue0,underlying3,isAgg3,sizeOf3,zeroValue3,underlying4,isAgg4,sizeOf4,zeroValue4,underlying5,isAgg5,sizeOf5,zeroValue5,underlying9,isAgg9,sizeOf9,zeroValue9,underlying21,isAgg21,sizeOf21,zeroValue21,underlying250,isAgg250,sizeOf250,zeroValue250,underlying286,isAgg286,sizeOf286,zeroValue286,underlying311,isAgg311,sizeOf311,underlying312,isAgg312,sizeOf312,zeroValue312,underlying333,isAgg333,sizeOf333,underlying315,isAgg315,sizeOf315,zeroValue315,underlying335,isAgg335,sizeOf335,zeroValue335,underlying336,isAgg336,sizeOf336,zeroValue336,by kernel_rfl,by kernel_rfl⟩
def Tryz.lays122_ren : Go.Shelf.Ren := ⟨fun | 122 => 263 | 215 => 307 | n => n, fun | 3 => 3 | 4 => 4 | n => n, fun | n => n⟩
theorem Tryz.lays122 : Go.Proofs.Lays.n122 Tryz.prog Tryz.lays122_ren := ⟨by kernel_rfl,func263.trans (congrArg some (by kernel_rfl)),func307.trans (congrArg some (by kernel_rfl)),underlying3,isAgg3,sizeOf3,zeroValue3,underlying4,isAgg4,sizeOf4,zeroValue4⟩
open Go.RowKit in
theorem Tryz.cmp_Compare_int (x y : Int) (w : World) :
    Calls Tryz.prog 263 #[.int .i64 x, .int .i64 y] w fun e w' => e = .returned (.int .i64 (Lib.compareInt x y)) ∧ w' = w := Any.cmp_Compare_int Tryz.lays122 x y w
open Go.RowKit in
theorem Tryz.Builder_String_any_k (B b : Nat) (l : List UInt8) (w : World) (h : Lib.IsBuilderF 107 5 B b (Lib.byteCells l) w) (hBw : B ≤ w.heap.size) :
    Calls Tryz.prog 71 #[.pointer (some ⟨b, 0, none⟩)] w fun e w' => e = .returned (.string ⟨l.toArray⟩) ∧ (Lib.IsBuilderF 107 5 B b (Lib.byteCells l) w' ∧ Below B w w' ∧ Lib.OthersKept 5 (some b) w w') := Any.Builder_String_any_k Tryz.lays169 Tryz.Builder_Extra_169 B b l w h hBw
def Tryz.lays172_ren : Go.Shelf.Ren := ⟨fun | 172 => 149 | 244 => 214 | 245 => 215 | 247 => 274 | 279 => 275 | 280 => 276 | 281 => 277 | 282 => 278 | 287 => 315 | 316 => 316 | 171 => 68 | 205 => 317 | 321 => 329 | 322 => 330 | 243 => 144 | 246 => 212 | 283 => 269 | 284 => 270 | 285 => 271 | 286 => 272 | 129 => 310 | 317 => 309 | 318 => 311 | 319 => 312 | 320 => 313 | 337 => 327 | 338 => 328 | n => n, fun | 9 => 9 | 3 => 3 | 75 => 109 | 76 => 110 | 4 => 4 | 5 => 5 | 167 => 276 | 37 => 105 | 0 => 0 | 85 => 277 | 2 => 2 | 168 => 279 | 53 => 271 | 175 => 321 | 46 => 250 | 210 => 324 | 127 => 188 | 145 => 332 | 143 => 330 | 21 => 21 | 171 => 270 | 173 => 274 | 212 => 317 | 51 => 302 | 20 => 20 | 213 => 318 | 232 => 339 | 233 => 340 | 80 => 115 | n => n, fun | 15 => 2 | 16 => 3 | 17 => 1 | 18 => 7 | 19 => 8 | n => n⟩
theorem Tryz.lays172 : Go.Proofs.Lays.n172 Tryz.prog Tryz.lays172_ren := ⟨by kernel_rfl,func310.trans (congrArg some (by kernel_rfl)),func68.trans (congrArg some (by kernel_rfl)),func149.trans (congrArg some (by kernel_rfl)),func317.trans (congrArg some (by kernel_rfl)),func144.trans (congrArg some (by kernel_rfl)),func214.trans (congrArg some (by kernel_rfl)),func215.trans (congrArg some (by kernel_rfl)),func212.trans (congrArg some (by kernel_rfl)),func274.trans (congrArg some (by kernel_rfl)),func275.trans (congrArg some (by kernel_rfl)),func276.trans (congrArg some (by kernel_rfl)),func277.trans (congrArg some (by kernel_rfl)),func278.trans (congrArg some (by kernel_rfl)),func269.trans (congrArg some (by kernel_rfl)),func270.trans (congrArg some (by kernel_rfl)),func271.trans (congrArg some (by kernel_rfl)),func272.trans (congrArg some (by kernel_rfl)),func315.trans (congrArg some (by kernel_rfl)),func316.trans (congrArg some (by kernel_rfl)),func309.trans (congrArg some (by kernel_rfl)),func311.trans (congrArg some (by kernel_rfl)),func312.trans (congrArg some (by kernel_rfl)),func313.trans (congrArg some (by kernel_rfl)),func329.trans (congrArg some (by kernel_rfl)),func330.trans (congrArg some (by kernel_rfl)),func327.trans (congrArg some (by kernel_rfl)),func328.trans (congrArg some (by kernel_rfl)),underlying0,isAgg0,sizeOf0,zeroValue0,underlying2,isAgg2,sizeOf2,zeroValue2,underlying3,isAgg3,sizeOf3,zeroValue3,underlying4,isAgg4,sizeOf4,zeroValue4,underlying5,isAgg5,sizeOf5,zeroValue5,underlying9,isAgg9,sizeOf9,zeroValue9,underlying20,isAgg20,sizeOf20,zeroValue20,underlying21,isAgg21,sizeOf21,zeroValue21,underlying105,isAgg105,sizeOf105,zeroValue105,underlying250,isAgg250,sizeOf250,zeroValue250,underlying302,isAgg302,sizeOf302,zeroValue302,underlying271,isAgg271,sizeOf271,zeroValue271,underlying109,isAgg109,sizeOf109,zeroValue109,underlying110,isAgg110,sizeOf110,zeroValue110,underlying277,isAgg277,sizeOf277,zeroValue277,underlying188,isAgg188,sizeOf188,zeroValue188,underlying330,isAgg330,sizeOf330,zeroValue330,underlying332,isAgg332,sizeOf332,zeroValue332,underlying276,isAgg276,sizeOf276,zeroValue276,underlying279,isAgg279,sizeOf279,zeroValue279,underlying270,isAgg270,sizeOf270,zeroValue270,underlying274,isAgg274,sizeOf274,zeroValue274,underlying321,isAgg321,sizeOf321,zeroValue321,underlying324,isAgg324,sizeOf324,zeroValue324,underlying317,isAgg317,sizeOf317,zeroValue317,underlying318,isAgg318,sizeOf318,underlying339,isAgg339,sizeOf339,zeroValue339,underlying340,isAgg340,sizeOf340,zeroValue340,by kernel_rfl,by kernel_rfl,by kernel_rfl,by kernel_rfl,by kernel_rfl⟩
open Go.RowKit in
theorem Tryz.strconv_Atoi (s : ByteArray) (n : Int) (hl : s.size ≤ 18) (h : Lib.atoi s.data.toList = some n) (w : World) :
    Calls Tryz.prog 149 #[.string s] w fun e w' => e = .returned (.tuple #[.int .i64 n, .nilIface]) ∧ ∃ t, w' = Lib.bytesWorld w 5 t := Any.strconv_Atoi Tryz.lays172 s n hl h w
def Tryz.laysM171_ren : Go.Shelf.Ren := ⟨fun | 171 => 68 | 243 => 144 | 246 => 212 | 283 => 269 | 284 => 270 | 285 => 271 | 286 => 272 | 129 => 310 | 317 => 309 | 318 => 311 | 319 => 312 | 320 => 313 | 337 => 327 | 338 => 328 | n => n, fun | 3 => 3 | 9 => 9 | 2 => 2 | 4 => 4 | 171 => 270 | 0 => 0 | 53 => 271 | 37 => 105 | 5 => 5 | 173 => 274 | 212 => 317 | 51 => 302 | 20 => 20 | 213 => 318 | 46 => 250 | 232 => 339 | 233 => 340 | n => n, fun | 17 => 1 | 18 => 7 | 19 => 8 | n => n⟩
theorem Tryz.laysM171 : Go.Proofs.LaysM.n171 Tryz.prog Tryz.laysM171_ren := {
  mixed := by kernel_rfl
  f129 := Tryz.func310.trans (congrArg some (by kernel_rfl))
  f171 := Tryz.func68.trans (congrArg some (by kernel_rfl))
  f243 := Tryz.func144.trans (congrArg some (by kernel_rfl))
  f246 := Tryz.func212.trans (congrArg some (by kernel_rfl))
  f283 := Tryz.func269.trans (congrArg some (by kernel_rfl))
  f284 := Tryz.func270.trans (congrArg some (by kernel_rfl))
  f285 := Tryz.func271.trans (congrArg some (by kernel_rfl))
  f286 := Tryz.func272.trans (congrArg some (by kernel_rfl))
  f317 := Tryz.func309.trans (congrArg some (by kernel_rfl))
  f318 := Tryz.func311.trans (congrArg some (by kernel_rfl))
  f319 := Tryz.func312.trans (congrArg some (by kernel_rfl))
  f320 := Tryz.func313.trans (congrArg some (by kernel_rfl))
  f337 := Tryz.func327.trans (congrArg some (by kernel_rfl))
  f338 := Tryz.func328.trans (congrArg some (by kernel_rfl))
  t0 := Tryz.underlying0
  a0 := Tryz.isAgg0
  z0 := Tryz.sizeOf0
  v0 := Tryz.zeroValue0
  t2 := Tryz.underlying2
  a2 := Tryz.isAgg2
  z2 := Tryz.sizeOf2
  v2 := Tryz.zeroValue2
  t3 := Tryz.underlying3
  a3 := Tryz.isAgg3
  z3 := Tryz.sizeOf3
  v3 := Tryz.zeroValue3
  t4 := Tryz.underlying4
  a4 := Tryz.isAgg4
  z4 := Tryz.sizeOf4
  v4 := Tryz.zeroValue4
  t5 := Tryz.underlying5
  a5 := Tryz.isAgg5
  z5 := Tryz.sizeOf5
  v5 := Tryz.zeroValue5
  t9 := Tryz.underlying9
  a9 := Tryz.isAgg9
  z9 := Tryz.sizeOf9
  v9 := Tryz.zeroValue9
  t20 := Tryz.underlying20
  a20 := Tryz.isAgg20
  z20 := Tryz.sizeOf20
  v20 := Tryz.zeroValue20
  t37 := Tryz.underlying105
  a37 := Tryz.isAgg105
  z37 := Tryz.sizeOf105
  v37 := Tryz.zeroValue105
  t46 := Tryz.underlying250
  a46 := Tryz.isAgg250
  z46 := Tryz.sizeOf250
  v46 := Tryz.zeroValue250
  t51 := Tryz.underlying302
  a51 := Tryz.isAgg302
  z51 := Tryz.sizeOf302
  v51 := Tryz.zeroValue302
  t53 := Tryz.underlying271
  a53 := Tryz.isAgg271
  z53 := Tryz.sizeOf271
  v53 := Tryz.zeroValue271
  t171 := Tryz.underlying270
  a171 := Tryz.isAgg270
  z171 := Tryz.sizeOf270
  v171 := Tryz.zeroValue270
  t173 := Tryz.underlying274
  a173 := Tryz.isAgg274
  z173 := Tryz.sizeOf274
  v173 := Tryz.zeroValue274
  t212 := Tryz.underlying317
  a212 := Tryz.isAgg317
  z212 := Tryz.sizeOf317
  v212 := Tryz.zeroValue317
  t213 := Tryz.underlying318
  a213 := Tryz.isAgg318
  z213 := Tryz.sizeOf318
  t232 := Tryz.underlying339
  a232 := Tryz.isAgg339
  z232 := Tryz.sizeOf339
  v232 := Tryz.zeroValue339
  t233 := Tryz.underlying340
  a233 := Tryz.isAgg340
  z233 := Tryz.sizeOf340
  v233 := Tryz.zeroValue340
  g17 := by kernel_rfl
  g18 := by kernel_rfl
  g19 := by kernel_rfl
  i0 := by kernel_rfl
  i2 := by kernel_rfl
  i3 := by kernel_rfl
  i4 := by kernel_rfl
  i5 := by kernel_rfl
  i9 := by kernel_rfl
  i20 := by kernel_rfl
  i37 := by kernel_rfl
  i46 := by kernel_rfl
  i51 := by kernel_rfl
  i53 := by kernel_rfl
  i171 := by kernel_rfl
  i173 := by kernel_rfl
  i212 := by kernel_rfl
  i232 := by kernel_rfl
  i233 := by kernel_rfl
  m17 := by kernel_rfl
  m18 := by kernel_rfl
  m19 := by kernel_rfl }
open Go.RowKit Go.Sort Go.Lib in
theorem Tryz.strconv_Itoa (n : Int) (h0 : -9223372036854775808 ≤ n) (h1 : n ≤ 9223372036854775807) (w : World) (htab : Lib.TabIs Tryz.prog w "internal/strconv.uint64pow10" .u64 Lib.pow10Tab) :
    Calls Tryz.prog 68 #[.int .i64 n] w fun e w' => e = .returned (.string ⟨(Lib.itoa n).toArray⟩) ∧ ∃ k os, w' = grow (w.drewN k) os := Any.strconv_Itoa Tryz.laysM171 n h0 h1 w htab
def Tryz.lays171_ren : Go.Shelf.Ren := ⟨fun | 171 => 68 | 243 => 144 | 246 => 212 | 283 => 269 | 284 => 270 | 285 => 271 | 286 => 272 | 129 => 310 | 317 => 309 | 318 => 311 | 319 => 312 | 320 => 313 | 337 => 327 | 338 => 328 | n => n, fun | 3 => 3 | 9 => 9 | 2 => 2 | 4 => 4 | 171 => 270 | 0 => 0 | 53 => 271 | 37 => 105 | 5 => 5 | 173 => 274 | 212 => 317 | 51 => 302 | 20 => 20 | 213 => 318 | 46 => 250 | 232 => 339 | 233 => 340 | n => n, fun | 17 => 1 | 18 => 7 | 19 => 8 | n => n⟩
theorem Tryz.lays171 : Go.Proofs.Lays.n171 Tryz.prog Tryz.lays171_ren := ⟨by kernel_rfl,func310.trans (congrArg some (by kernel_rfl)),func68.trans (congrArg some (by kernel_rfl)),func144.trans (congrArg some (by kernel_rfl)),func212.trans (congrArg some (by kernel_rfl)),func269.trans (congrArg some (by kernel_rfl)),func270.trans (congrArg some (by kernel_rfl)),func271.trans (congrArg some (by kernel_rfl)),func272.trans (congrArg some (by kernel_rfl)),func309.trans (congrArg some (by kernel_rfl)),func311.trans (congrArg some (by kernel_rfl)),func312.trans (congrArg some (by kernel_rfl)),func313.trans (congrArg some (by kernel_rfl)),func327.trans (congrArg some (by kernel_rfl)),func328.trans (congrArg some (by kernel_rfl)),underlying0,isAgg0,sizeOf0,zeroValue0,underlying2,isAgg2,sizeOf2,zeroValue2,underlying3,isAgg3,sizeOf3,zeroValue3,underlying4,isAgg4,sizeOf4,zeroValue4,underlying5,isAgg5,sizeOf5,zeroValue5,underlying9,isAgg9,sizeOf9,zeroValue9,underlying20,isAgg20,sizeOf20,zeroValue20,underlying105,isAgg105,sizeOf105,zeroValue105,underlying250,isAgg250,sizeOf250,zeroValue250,underlying302,isAgg302,sizeOf302,zeroValue302,underlying271,isAgg271,sizeOf271,zeroValue271,underlying270,isAgg270,sizeOf270,zeroValue270,underlying274,isAgg274,sizeOf274,zeroValue274,underlying317,isAgg317,sizeOf317,zeroValue317,underlying318,isAgg318,sizeOf318,underlying339,isAgg339,sizeOf339,zeroValue339,underlying340,isAgg340,sizeOf340,zeroValue340,by kernel_rfl,by kernel_rfl,by kernel_rfl⟩
open Go.RowKit Go.Sort Go.Lib in
theorem Tryz.strconv_Itoa_small (i : Nat) (hi : i < 100) (w : World) :
    Calls Tryz.prog 68 #[.int .i64 i] w fun e w' => e = .returned (.string ⟨(Lib.decDigits i).toArray⟩) ∧ w' = w := Any.strconv_Itoa_small Tryz.lays171 i hi w
def Tryz.laysC172_ren : Go.Shelf.Ren := ⟨fun | 172 => 149 | 244 => 214 | 245 => 215 | 247 => 274 | 279 => 275 | 280 => 276 | 281 => 277 | 282 => 278 | 287 => 315 | 316 => 316 | 171 => 68 | 205 => 317 | 321 => 329 | 322 => 330 | 243 => 144 | 246 => 212 | 283 => 269 | 284 => 270 | 285 => 271 | 286 => 272 | 129 => 310 | 317 => 309 | 318 => 311 | 319 => 312 | 320 => 313 | 337 => 327 | 338 => 328 | n => n, fun | 9 => 9 | 3 => 3 | 75 => 109 | 76 => 110 | 4 => 4 | 5 => 5 | 167 => 276 | 37 => 105 | 0 => 0 | 85 => 277 | 2 => 2 | 168 => 279 | 53 => 271 | 175 => 321 | 46 => 250 | 210 => 324 | 127 => 188 | 145 => 332 | 143 => 330 | 21 => 21 | 171 => 270 | 173 => 274 | 212 => 317 | 51 => 302 | 20 => 20 | 213 => 318 | 232 => 339 | 233 => 340 | 80 => 115 | n => n, fun | 15 => 2 | 16 => 3 | 17 => 1 | 18 => 7 | 19 => 8 | n => n⟩
theorem Tryz.laysC172 : Go.Proofs.LaysC.n172 Tryz.prog Tryz.laysC172_ren := {
  mixed := by kernel_rfl
  f129 := Tryz.func310.trans (congrArg some (by kernel_rfl))
  f171 := Tryz.func68.trans (congrArg some (by kernel_rfl))
  f172 := Tryz.func149.trans (congrArg some (by kernel_rfl))
  f205 := Tryz.func317.trans (congrArg some (by kernel_rfl))
  f243 := Tryz.func144.trans (congrArg some (by kernel_rfl))
  f244 := Tryz.func214.trans (congrArg some (by kernel_rfl))
  f245 := Tryz.func215.trans (congrArg some (by kernel_rfl))
  f246 := Tryz.func212.trans (congrArg some (by kernel_rfl))
  f247 := Tryz.func274.trans (congrArg some (by kernel_rfl))
  f279 := Tryz.func275.trans (congrArg some (by kernel_rfl))
  f280 := Tryz.func276.trans (congrArg some (by kernel_rfl))
  f281 := Tryz.func277.trans (congrArg some (by kernel_rfl))
  f282 := Tryz.func278.trans (congrArg some (by kernel_rfl))
  f283 := Tryz.func269.trans (congrArg some (by kernel_rfl))
  f284 := Tryz.func270.trans (congrArg some (by kernel_rfl))
  f285 := Tryz.func271.trans (congrArg some (by kernel_rfl))
  f286 := Tryz.func272.trans (congrArg some (by kernel_rfl))
  f287 := Tryz.func315.trans (congrArg some (by kernel_rfl))
  f316 := Tryz.func316.trans (congrArg some (by kernel_rfl))
  f317 := Tryz.func309.trans (congrArg some (by kernel_rfl))
  f318 := Tryz.func311.trans (congrArg some (by kernel_rfl))
  f319 := Tryz.func312.trans (congrArg some (by kernel_rfl))
  f320 := Tryz.func313.trans (congrArg some (by kernel_rfl))
  f321 := Tryz.func329.trans (congrArg some (by kernel_rfl))
  f322 := Tryz.func330.trans (congrArg some (by kernel_rfl))
  f337 := Tryz.func327.trans (congrArg some (by kernel_rfl))
  f338 := Tryz.func328.trans (congrArg some (by kernel_rfl))
  t0 := Tryz.underlying0
  a0 := Tryz.isAgg0
  z0 := Tryz.sizeOf0
  v0 := Tryz.zeroValue0
  t2 := Tryz.underlying2
  a2 := Tryz.isAgg2
  z2 := Tryz.sizeOf2
  v2 := Tryz.zeroValue2
  t3 := Tryz.underlying3
  a3 := Tryz.isAgg3
  z3 := Tryz.sizeOf3
  v3 := Tryz.zeroValue3
  t4 := Tryz.underlying4
  a4 := Tryz.isAgg4
  z4 := Tryz.sizeOf4
  v4 := Tryz.zeroValue4
  t5 := Tryz.underlying5
  a5 := Tryz.isAgg5
  z5 := Tryz.sizeOf5
  v5 := Tryz.zeroValue5
  t9 := Tryz.underlying9
  a9 := Tryz.isAgg9
  z9 := Tryz.sizeOf9
  v9 := Tryz.zeroValue9
  t20 := Tryz.underlying20
  a20 := Tryz.isAgg20
  z20 := Tryz.sizeOf20
  v20 := Tryz.zeroValue20
  t21 := Tryz.underlying21
  a21 := Tryz.isAgg21
  z21 := Tryz.sizeOf21
  v21 := Tryz.zeroValue21
  t37 := Tryz.underlying105
  a37 := Tryz.isAgg105
  z37 := Tryz.sizeOf105
  v37 := Tryz.zeroValue105
  t46 := Tryz.underlying250
  a46 := Tryz.isAgg250
  z46 := Tryz.sizeOf250
  v46 := Tryz.zeroValue250
  t51 := Tryz.underlying302
  a51 := Tryz.isAgg302
  z51 := Tryz.sizeOf302
  v51 := Tryz.zeroValue302
  t53 := Tryz.underlying271
  a53 := Tryz.isAgg271
  z53 := Tryz.sizeOf271
  v53 := Tryz.zeroValue271
  t75 := Tryz.underlying109
  a75 := Tryz.isAgg109
  z75 := Tryz.sizeOf109
  v75 := Tryz.zeroValue109
  t76 := Tryz.underlying110
  a76 := Tryz.isAgg110
  z76 := Tryz.sizeOf110
  v76 := Tryz.zeroValue110
  t85 := Tryz.underlying277
  a85 := Tryz.isAgg277
  z85 := Tryz.sizeOf277
  v85 := Tryz.zeroValue277
  t127 := Tryz.underlying188
  a127 := Tryz.isAgg188
  z127 := Tryz.sizeOf188
  v127 := Tryz.zeroValue188
  t143 := Tryz.underlying330
  a143 := Tryz.isAgg330
  z143 := Tryz.sizeOf330
  v143 := Tryz.zeroValue330
  t145 := Tryz.underlying332
  a145 := Tryz.isAgg332
  z145 := Tryz.sizeOf332
  v145 := Tryz.zeroValue332
  t167 := Tryz.underlying276
  a167 := Tryz.isAgg276
  z167 := Tryz.sizeOf276
  v167 := Tryz.zeroValue276
  t168 := Tryz.underlying279
  a168 := Tryz.isAgg279
  z168 := Tryz.sizeOf279
  v168 := Tryz.zeroValue279
  t171 := Tryz.underlying270
  a171 := Tryz.isAgg270
  z171 := Tryz.sizeOf270
  v171 := Tryz.zeroValue270
  t173 := Tryz.underlying274
  a173 := Tryz.isAgg274
  z173 := Tryz.sizeOf274
  v173 := Tryz.zeroValue274
  t175 := Tryz.underlying321
  a175 := Tryz.isAgg321
  z175 := Tryz.sizeOf321
  v175 := Tryz.zeroValue321
  t210 := Tryz.underlying324
  a210 := Tryz.isAgg324
  z210 := Tryz.sizeOf324
  v210 := Tryz.zeroValue324
  t212 := Tryz.underlying317
  a212 := Tryz.isAgg317
  z212 := Tryz.sizeOf317
  v212 := Tryz.zeroValue317
  t213 := Tryz.underlying318
  a213 := Tryz.isAgg318
  z213 := Tryz.sizeOf318
  t232 := Tryz.underlying339
  a232 := Tryz.isAgg339
  z232 := Tryz.sizeOf339
  v232 := Tryz.zeroValue339
  t233 := Tryz.underlying340
  a233 := Tryz.isAgg340
  z233 := Tryz.sizeOf340
  v233 := Tryz.zeroValue340
  g15 := by kernel_rfl
  g16 := by kernel_rfl
  g17 := by kernel_rfl
  g18 := by kernel_rfl
  g19 := by kernel_rfl
  t80 := Tryz.underlying115
  a80 := Tryz.isAgg115
  z80 := Tryz.sizeOf115
  v80 := Tryz.zeroValue115
  i0 := by kernel_rfl
  i2 := by kernel_rfl
  i3 := by kernel_rfl
  i4 := by kernel_rfl
  i5 := by kernel_rfl
  i9 := by kernel_rfl
  i20 := by kernel_rfl
  i21 := by kernel_rfl
  i37 := by kernel_rfl
  i46 := by kernel_rfl
  i51 := by kernel_rfl
  i53 := by kernel_rfl
  i75 := by kernel_rfl
  i76 := by kernel_rfl
  i80 := by kernel_rfl
  i85 := by kernel_rfl
  i127 := by kernel_rfl
  i143 := by kernel_rfl
  i145 := by kernel_rfl
  i167 := by kernel_rfl
  i168 := by kernel_rfl
  i171 := by kernel_rfl
  i173 := by kernel_rfl
  i175 := by kernel_rfl
  i210 := by kernel_rfl
  i212 := by kernel_rfl
  i232 := by kernel_rfl
  i233 := by kernel_rfl
  m15 := by kernel_rfl
  m16 := by kernel_rfl
  m17 := by kernel_rfl
  m18 := by kernel_rfl
  m19 := by kernel_rfl
  c0 := by kernel_rfl
  c2 := by kernel_rfl
  c3 := by kernel_rfl
  c4 := by kernel_rfl
  c5 := by kernel_rfl
  c9 := by kernel_rfl
  c20 := by kernel_rfl
  c21 := by kernel_rfl
  c37 := by kernel_rfl
  c46 := by kernel_rfl
  c51 := by kernel_rfl
  c53 := by kernel_rfl
  c75 := by kernel_rfl
  c76 := by kernel_rfl
  c80 := by kernel_rfl
  c85 := by kernel_rfl
  c127 := by kernel_rfl
  c143 := by kernel_rfl
  c145 := by kernel_rfl
  c167 := by kernel_rfl
  c168 := by kernel_rfl
  c171 := by kernel_rfl
  c173 := by kernel_rfl
  c175 := by kernel_rfl
  c210 := by kernel_rfl
  c212 := by kernel_rfl
  c213 := by kernel_rfl
  c232 := by kernel_rfl
  c233 := by kernel_rfl }
open Go.RowKit in
theorem Tryz.strconv_Atoi_ok (s : ByteArray) (hmax : s.size ≤ 9223372036854775806) (v : Int) (h : Lib.atoiAll s.data.toList = .ok v) (w : World) :
    Calls Tryz.prog 149 #[.string s] w fun e w' => e = .returned (.tuple #[.int .i64 v, .nilIface]) ∧ (w' = w ∨ ∃ t, w' = Lib.bytesWorld w 5 t) := Any.strconv_Atoi_ok Tryz.laysC172 s hmax v h w
def Tryz.lays145_ren : Go.Shelf.Ren := ⟨fun | 145 => 280 | 220 => 318 | 219 => 287 | 217 => 320 | 225 => 321 | 224 => 322 | 267 => 323 | 266 => 331 | 314 => 332 | n => n, fun | 9 => 9 | 4 => 4 | 59 => 282 | 3 => 3 | 5 => 5 | 46 => 250 | 146 => 303 | 51 => 302 | n => n, fun | 1 => 4 | n => n⟩
theorem Tryz.lays145 : Go.Proofs.Lays.n145 Tryz.prog Tryz.lays145_ren := ⟨by kernel_rfl,func280.trans (congrArg some (by kernel_rfl)),func320.trans (congrArg some (by kernel_rfl)),func287.trans (congrArg some (by kernel_rfl)),func318.trans (congrArg some (by kernel_rfl)),func322.trans (congrArg some (by kernel_rfl)),func321.trans (congrArg some (by kernel_rfl)),func331.trans (congrArg some (by kernel_rfl)),func323.trans (congrArg some (by kernel_rfl)),func332.trans (congrArg some (by kernel_rfl)),underlying3,isAgg3,sizeOf3,zeroValue3,underlying4,isAgg4,sizeOf4,zeroValue4,underlying5,isAgg5,sizeOf5,zeroValue5,underlying9,isAgg9,sizeOf9,zeroValue9,underlying250,isAgg250,sizeOf250,zeroValue250,underlying302,isAgg302,sizeOf302,zeroValue302,underlying282,isAgg282,sizeOf282,zeroValue282,underlying303,isAgg303,sizeOf303,zeroValue303,by kernel_rfl⟩
open Go.RowKit Go.Lib in
theorem Tryz.strings_Cut (s sep : ByteArray) (m : Int) (w : World) (hs : s.size < 4294967281) (hm : w.cell? ⟨4, 0, none⟩ = some (.int .i64 m)) :
    Calls Tryz.prog 280 #[.string s, .string sep] w fun e w' => e = .returned (.tuple #[.string ⟨(Lib.cut s.data.toList sep.data.toList).1.toArray⟩, .string ⟨(Lib.cut s.data.toList sep.data.toList).2.1.toArray⟩, .bool (Lib.cut s.data.toList sep.data.toList).2.2]) ∧ ∃ n, w' = w.drewN n := Any.strings_Cut Tryz.lays145 s sep m w hs hm
def Tryz.lays101_ren : Go.Shelf.Ren := ⟨fun | 101 => 150 | 208 => 216 | 206 => 153 | n => n, fun | 9 => 9 | 4 => 4 | 3 => 3 | n => n, fun | n => n⟩
theorem Tryz.lays101 : Go.Proofs.Lays.n101 Tryz.prog Tryz.lays101_ren := ⟨by kernel_rfl,func150.trans (congrArg some (by kernel_rfl)),func153.trans (congrArg some (by kernel_rfl)),func216.trans (congrArg some (by kernel_rfl)),underlying3,isAgg3,sizeOf3,zeroValue3,underlying4,isAgg4,sizeOf4,zeroValue4,underlying9,isAgg9,sizeOf9,zeroValue9⟩
open Go.RowKit Go.Lib in
theorem Tryz.strings_TrimPrefix (s p : ByteArray) (w : World) :
    Calls Tryz.prog 150 #[.string s, .string p] w fun e w' => e = .returned (.string ⟨(Lib.trimPrefix s.data.toList p.data.toList).toArray⟩) ∧ w' = w := Any.strings_TrimPrefix Tryz.lays101 s p w
def Tryz.lays146_ren : Go.Shelf.Ren := ⟨fun | 146 => 73 | 221 => 152 | 268 => 220 | 138 => 221 | 143 => 222 | 195 => 284 | 197 => 285 | 218 => 286 | 219 => 287 | 260 => 319 | 217 => 320 | 225 => 321 | 224 => 322 | 267 => 323 | 266 => 331 | 314 => 332 | n => n, fun | 9 => 9 | 31 => 121 | 3 => 3 | 4 => 4 | 0 => 0 | 105 => 286 | 21 => 21 | 5 => 5 | 46 => 250 | 119 => 333 | 139 => 336 | 138 => 335 | 146 => 303 | 51 => 302 | n => n, fun | 1 => 4 | 3 => 5 | 4 => 6 | n => n⟩
theorem Tryz.lays146 : Go.Proofs.Lays.n146 Tryz.prog Tryz.lays146_ren := ⟨by kernel_rfl,func221.trans (congrArg some (by kernel_rfl)),func222.trans (congrArg some (by kernel_rfl)),func73.trans (congrArg some (by kernel_rfl)),func284.trans (congrArg some (by kernel_rfl)),func285.trans (congrArg some (by kernel_rfl)),func320.trans (congrArg some (by kernel_rfl)),func286.trans (congrArg some (by kernel_rfl)),func287.trans (congrArg some (by kernel_rfl)),func152.trans (congrArg some (by kernel_rfl)),func322.trans (congrArg some (by kernel_rfl)),func321.trans (congrArg some (by kernel_rfl)),func319.trans (congrArg some (by kernel_rfl)),func331.trans (congrArg some (by kernel_rfl)),func323.trans (congrArg some (by kernel_rfl)),func220.trans (congrArg some (by kernel_rfl)),func332.trans (congrArg some (by kernel_rfl)),underlying0,isAgg0,sizeOf0,zeroValue0,underlying3,isAgg3,sizeOf3,zeroValue3,underlying4,isAgg4,sizeOf4,zeroValue4,underlying5,isAgg5,sizeOf5,zeroValue5,underlying9,isAgg9,sizeOf9,zeroValue9,underlying21,isAgg21,sizeOf21,zeroValue21,underlying121,isAgg121,sizeOf121,zeroValue121,underlying250,isAgg250,sizeOf250,zeroValue250,underlying302,isAgg302,sizeOf302,zeroValue302,underlying286,isAgg286,sizeOf286,zeroValue286,underlying333,isAgg333,sizeOf333,underlying335,isAgg335,sizeOf335,zeroValue335,underlying336,isAgg336,sizeOf336,zeroValue336,underlying303,isAgg303,sizeOf303,zeroValue303,by kernel_rfl,by kernel_rfl,by kernel_rfl⟩
open Go.RowKit Go.Lib in
theorem Tryz.strings_Split (s sep : ByteArray) (m : Int) (w : World) (hs : s.size < 4294967281) (hm : w.cell? ⟨4, 0, none⟩ = some (.int .i64 m)) (h1 : 1 ≤ sep.size) :
    Calls Tryz.prog 73 #[.string s, .string sep] w fun e w' =>
      e = .returned (.slice (some ⟨w.heap.size, 0, none⟩) (Lib.countB s sep + 1) (Lib.countB s sep + 1)) ∧ w' = w.alloc (.cells ((Lib.splitB sep 0 (Lib.countB s sep) s).map Value.string).toArray 9) := Any.strings_Split Tryz.lays146 (by kernel_rfl) s sep m w hs hm h1
def Tryz.lays105_ren : Go.Shelf.Ren := ⟨fun | 105 => 168 | 212 => 242 | 99 => 74 | 165 => 213 | 166 => 67 | 170 => 243 | 169 => 71 | 263 => 295 | 264 => 296 | 206 => 153 | 240 => 143 | 241 => 273 | 276 => 211 | 277 => 314 | n => n, fun | 9 => 9 | 3 => 3 | 4 => 4 | 20 => 20 | 0 => 0 | 46 => 250 | 109 => 251 | 5 => 5 | 72 => 107 | 76 => 110 | 51 => 302 | 146 => 303 | 53 => 271 | 148 => 305 | 70 => 104 | 37 => 105 | 75 => 109 | 127 => 188 | 164 => 226 | 80 => 115 | n => n, fun | n => n⟩
theorem Tryz.lays105 : Go.Proofs.Lays.n105 Tryz.prog Tryz.lays105_ren := ⟨by kernel_rfl,func74.trans (congrArg some (by kernel_rfl)),func168.trans (congrArg some (by kernel_rfl)),func213.trans (congrArg some (by kernel_rfl)),func67.trans (congrArg some (by kernel_rfl)),func71.trans (congrArg some (by kernel_rfl)),func243.trans (congrArg some (by kernel_rfl)),func153.trans (congrArg some (by kernel_rfl)),func242.trans (congrArg some (by kernel_rfl)),func143.trans (congrArg some (by kernel_rfl)),func273.trans (congrArg some (by kernel_rfl)),func295.trans (congrArg some (by kernel_rfl)),func296.trans (congrArg some (by kernel_rfl)),func211.trans (congrArg some (by kernel_rfl)),func314.trans (congrArg some (by kernel_rfl)),underlying0,isAgg0,sizeOf0,zeroValue0,underlying3,isAgg3,sizeOf3,zeroValue3,underlying4,isAgg4,sizeOf4,zeroValue4,underlying5,isAgg5,sizeOf5,zeroValue5,underlying9,isAgg9,sizeOf9,zeroValue9,underlying20,isAgg20,sizeOf20,zeroValue20,underlying105,isAgg105,sizeOf105,zeroValue105,underlying250,isAgg250,sizeOf250,zeroValue250,underlying302,isAgg302,sizeOf302,zeroValue302,underlying271,isAgg271,sizeOf271,zeroValue271,underlying104,isAgg104,sizeOf104,zeroValue104,underlying107,isAgg107,sizeOf107,zeroValue107,underlying109,isAgg109,sizeOf109,zeroValue109,underlying110,isAgg110,sizeOf110,zeroValue110,underlying251,isAgg251,sizeOf251,zeroValue251,underlying188,isAgg188,sizeOf188,zeroValue188,underlying303,isAgg303,sizeOf303,zeroValue303,underlying305,isAgg305,sizeOf305,zeroValue305,underlying226,isAgg226,sizeOf226,zeroValue226⟩
theorem Tryz.Builder_Extra_105 : Builder.Extra Tryz.prog Tryz.lays105_ren := {
  sizeBuilder := by kernel_rfl
  liesBuilder := by kernel_rfl
  t5 := Tryz.underlying5
  a5 := Tryz.isAgg5
  z5 := Tryz.sizeOf5
  v5 := Tryz.zeroValue5
  infoByte := by kernel_rfl
  cellsByte := by kernel_rfl
  sizeByte := by kernel_rfl
  neB5 := by decide }
open Go.RowKit Go.Lib in
theorem Tryz.strings_Repeat (s : ByteArray) (c : Nat) (w : World) (hc : c ≤ 9223372036854775807) (hlen : s.size * c ≤ 140737488355328) :
    Calls Tryz.prog 168 #[.string s, .int .i64 c] w fun e w' => e = .returned (.string ⟨(Lib.repeatL s.data.toList c).toArray⟩) ∧ Below w.heap.size w w' := Any.strings_Repeat Tryz.lays105 Tryz.Builder_Extra_105 s c w hc hlen
end Go.Proofs
