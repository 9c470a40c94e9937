/- Contracts of library functions, as the shelf's tool lays them at this translation. -/
import Derived.Shelf.Strings.OnBuilder
import Derived.Shelf.Strings.Builder2
import Derived.Shelf.Strings.BuilderK
import Derived.Shelf.Strings.Cut
import Derived.Shelf.Strings.Split
import Derived.Shelf.Strings.Prefix
import Derived.Shelf.Strings.Repeat
import Derived.Shelf.Strings.SlTrimAscii
import Derived.Shelf.Small.Wraps
import Derived.Shelf.Strconv.Atoi
import Derived.Shelf.Strconv.AtoiAll
import Derived.Shelf.Strconv.Itoa3
import Derived.Shelf.LaysM
import Derived.Test.YtdbnankjpnpojaaGreatDoorProg
namespace Go.Proofs
open Go.Shelf Tryz
def Tryz.lays169_ren : Go.Shelf.Ren := ⟨fun | 169 => 98 | n => n, fun | 70 => 129 | 9 => 9 | 0 => 0 | 72 => 132 | 37 => 130 | 127 => 207 | 3 => 3 | 5 => 5 | n => n, fun | n => n⟩
theorem Tryz.lays169 : Go.Proofs.Lays.n169 Tryz.prog Tryz.lays169_ren := ⟨by kernel_rfl,func98.trans (congrArg some (by kernel_rfl)),underlying0,isAgg0,sizeOf0,zeroValue0,underlying3,isAgg3,sizeOf3,zeroValue3,underlying9,isAgg9,sizeOf9,zeroValue9,underlying130,isAgg130,sizeOf130,zeroValue130,underlying129,isAgg129,sizeOf129,zeroValue129,underlying132,isAgg132,sizeOf132,zeroValue132,underlying207,isAgg207,sizeOf207,zeroValue207⟩
theorem Tryz.Builder_Extra_169 : Builder.Extra Tryz.prog Tryz.lays169_ren := {
  sizeBuilder := by kernel_rfl
  liesBuilder := by kernel_rfl
  t5 := Tryz.underlying5
  a5 := Tryz.isAgg5
  z5 := Tryz.sizeOf5
  v5 := Tryz.zeroValue5
  infoByte := by kernel_rfl
  cellsByte := by kernel_rfl
  sizeByte := by kernel_rfl
  neB5 := by decide }
def Tryz.lays156_ren : Go.Shelf.Ren := ⟨fun | 156 => 169 | 165 => 222 | 166 => 94 | 169 => 98 | 240 => 164 | 241 => 260 | 276 => 220 | 277 => 297 | n => n, fun | 31 => 146 | 9 => 9 | 3 => 3 | 4 => 4 | 0 => 0 | 20 => 20 | 72 => 132 | 76 => 135 | 70 => 129 | 37 => 130 | 75 => 134 | 127 => 207 | 164 => 245 | 5 => 5 | 80 => 140 | n => n, fun | n => n⟩
theorem Tryz.lays156 : Go.Proofs.Lays.n156 Tryz.prog Tryz.lays156_ren := ⟨by kernel_rfl,func169.trans (congrArg some (by kernel_rfl)),func222.trans (congrArg some (by kernel_rfl)),func94.trans (congrArg some (by kernel_rfl)),func98.trans (congrArg some (by kernel_rfl)),func164.trans (congrArg some (by kernel_rfl)),func260.trans (congrArg some (by kernel_rfl)),func220.trans (congrArg some (by kernel_rfl)),func297.trans (congrArg some (by kernel_rfl)),underlying0,isAgg0,sizeOf0,zeroValue0,underlying3,isAgg3,sizeOf3,zeroValue3,underlying4,isAgg4,sizeOf4,zeroValue4,underlying9,isAgg9,sizeOf9,zeroValue9,underlying20,isAgg20,sizeOf20,zeroValue20,underlying146,isAgg146,sizeOf146,zeroValue146,underlying130,isAgg130,sizeOf130,zeroValue130,underlying129,isAgg129,sizeOf129,zeroValue129,underlying132,isAgg132,sizeOf132,zeroValue132,underlying134,isAgg134,sizeOf134,zeroValue134,underlying135,isAgg135,sizeOf135,zeroValue135,underlying207,isAgg207,sizeOf207,zeroValue207,underlying245,isAgg245,sizeOf245,zeroValue245⟩
theorem Tryz.Builder_Extra_156 : Builder.Extra Tryz.prog Tryz.lays156_ren := {
  sizeBuilder := by kernel_rfl
  liesBuilder := by kernel_rfl
  t5 := Tryz.underlying5
  a5 := Tryz.isAgg5
  z5 := Tryz.sizeOf5
  v5 := Tryz.zeroValue5
  infoByte := by kernel_rfl
  cellsByte := by kernel_rfl
  sizeByte := by kernel_rfl
  neB5 := by decide }
open Go.RowKit in
theorem Tryz.strings_Join (bk o c : Nat) (xs : List ByteArray) (sep : ByteArray) (w : World) (hcells : ∀ (j : Nat) x, xs[j]? = some x → w.cell? ⟨bk, o + j, none⟩ = some (.string x)) (hbk : bk < w.heap.size) (hN : xs.length ≤ 140737488355328) (hcap : xs.length ≤ c) (hlen : (Lib.join (xs.map (·.data.toList)) sep.data.toList).length ≤ 140737488355328) :
    Calls Tryz.prog 169 #[.slice (some ⟨bk, o, none⟩) xs.length c, .string sep] w fun e w' => e = .returned (.string ⟨(Lib.join (xs.map (·.data.toList)) sep.data.toList).toArray⟩) ∧ Below w.heap.size w w' := Any.strings_Join Tryz.lays156 Tryz.Builder_Extra_156 bk o c xs sep w hcells hbk hN hcap hlen
def Tryz.lays160_ren : Go.Shelf.Ren := ⟨fun | 160 => 239 | 232 => 281 | 231 => 280 | 227 => 282 | 234 => 284 | 233 => 283 | 236 => 286 | 235 => 285 | 228 => 307 | 271 => 309 | 151 => 308 | 197 => 272 | 120 => 317 | 152 => 316 | 260 => 302 | 137 => 318 | 119 => 319 | 224 => 305 | 225 => 304 | 217 => 303 | 266 => 314 | n => n, fun | 9 => 9 | 4 => 4 | 3 => 3 | 5 => 5 | 117 => 295 | 116 => 294 | 0 => 0 | 124 => 298 | 21 => 21 | 105 => 288 | 46 => 268 | 119 => 333 | 139 => 336 | 138 => 335 | n => n, fun | 3 => 5 | 4 => 6 | n => n⟩
theorem Tryz.lays160 : Go.Proofs.Lays.n160 Tryz.prog Tryz.lays160_ren := ⟨by kernel_rfl,func319.trans (congrArg some (by kernel_rfl)),func317.trans (congrArg some (by kernel_rfl)),func318.trans (congrArg some (by kernel_rfl)),func308.trans (congrArg some (by kernel_rfl)),func316.trans (congrArg some (by kernel_rfl)),func239.trans (congrArg some (by kernel_rfl)),func272.trans (congrArg some (by kernel_rfl)),func303.trans (congrArg some (by kernel_rfl)),func305.trans (congrArg some (by kernel_rfl)),func304.trans (congrArg some (by kernel_rfl)),func282.trans (congrArg some (by kernel_rfl)),func307.trans (congrArg some (by kernel_rfl)),func280.trans (congrArg some (by kernel_rfl)),func281.trans (congrArg some (by kernel_rfl)),func283.trans (congrArg some (by kernel_rfl)),func284.trans (congrArg some (by kernel_rfl)),func285.trans (congrArg some (by kernel_rfl)),func286.trans (congrArg some (by kernel_rfl)),func302.trans (congrArg some (by kernel_rfl)),func314.trans (congrArg some (by kernel_rfl)),func309.trans (congrArg some (by kernel_rfl)),underlying0,isAgg0,sizeOf0,zeroValue0,underlying3,isAgg3,sizeOf3,zeroValue3,underlying4,isAgg4,sizeOf4,zeroValue4,underlying5,isAgg5,sizeOf5,zeroValue5,underlying9,isAgg9,sizeOf9,zeroValue9,underlying21,isAgg21,sizeOf21,zeroValue21,underlying268,isAgg268,sizeOf268,zeroValue268,underlying288,isAgg288,sizeOf288,zeroValue288,underlying294,isAgg294,sizeOf294,underlying295,isAgg295,sizeOf295,zeroValue295,underlying333,isAgg333,sizeOf333,underlying298,isAgg298,sizeOf298,zeroValue298,underlying335,isAgg335,sizeOf335,zeroValue335,underlying336,isAgg336,sizeOf336,zeroValue336,by kernel_rfl,by kernel_rfl⟩
def Tryz.lays122_ren : Go.Shelf.Ren := ⟨fun | 122 => 241 | 215 => 287 | n => n, fun | 3 => 3 | 4 => 4 | n => n, fun | n => n⟩
theorem Tryz.lays122 : Go.Proofs.Lays.n122 Tryz.prog Tryz.lays122_ren := ⟨by kernel_rfl,func241.trans (congrArg some (by kernel_rfl)),func287.trans (congrArg some (by kernel_rfl)),underlying3,isAgg3,sizeOf3,zeroValue3,underlying4,isAgg4,sizeOf4,zeroValue4⟩
open Go.RowKit in
theorem Tryz.cmp_Compare_int (x y : Int) (w : World) :
    Calls Tryz.prog 241 #[.int .i64 x, .int .i64 y] w fun e w' => e = .returned (.int .i64 (Lib.compareInt x y)) ∧ w' = w := Any.cmp_Compare_int Tryz.lays122 x y w
open Go.RowKit in
theorem Tryz.Builder_String_any_k (B b : Nat) (l : List UInt8) (w : World) (h : Lib.IsBuilderF 132 5 B b (Lib.byteCells l) w) (hBw : B ≤ w.heap.size) :
    Calls Tryz.prog 98 #[.pointer (some ⟨b, 0, none⟩)] w fun e w' => e = .returned (.string ⟨l.toArray⟩) ∧ (Lib.IsBuilderF 132 5 B b (Lib.byteCells l) w' ∧ Below B w w' ∧ Lib.OthersKept 5 (some b) w w') := Any.Builder_String_any_k Tryz.lays169 Tryz.Builder_Extra_169 B b l w h hBw
def Tryz.lays172_ren : Go.Shelf.Ren := ⟨fun | 172 => 170 | 244 => 223 | 245 => 224 | 247 => 261 | 279 => 262 | 280 => 263 | 281 => 264 | 282 => 265 | 287 => 298 | 316 => 299 | 171 => 95 | 205 => 300 | 321 => 312 | 322 => 313 | 243 => 165 | 246 => 221 | 283 => 256 | 284 => 257 | 285 => 258 | 286 => 259 | 129 => 293 | 317 => 292 | 318 => 294 | 319 => 295 | 320 => 296 | 337 => 310 | 338 => 311 | n => n, fun | 9 => 9 | 3 => 3 | 75 => 134 | 76 => 135 | 4 => 4 | 5 => 5 | 167 => 278 | 37 => 130 | 0 => 0 | 85 => 279 | 2 => 2 | 168 => 281 | 53 => 273 | 175 => 321 | 46 => 268 | 210 => 324 | 127 => 207 | 145 => 332 | 143 => 330 | 21 => 21 | 171 => 272 | 173 => 276 | 212 => 317 | 51 => 311 | 20 => 20 | 213 => 318 | 232 => 339 | 233 => 340 | 80 => 140 | n => n, fun | 15 => 2 | 16 => 3 | 17 => 1 | 18 => 7 | 19 => 8 | n => n⟩
theorem Tryz.lays172 : Go.Proofs.Lays.n172 Tryz.prog Tryz.lays172_ren := ⟨by kernel_rfl,func293.trans (congrArg some (by kernel_rfl)),func95.trans (congrArg some (by kernel_rfl)),func170.trans (congrArg some (by kernel_rfl)),func300.trans (congrArg some (by kernel_rfl)),func165.trans (congrArg some (by kernel_rfl)),func223.trans (congrArg some (by kernel_rfl)),func224.trans (congrArg some (by kernel_rfl)),func221.trans (congrArg some (by kernel_rfl)),func261.trans (congrArg some (by kernel_rfl)),func262.trans (congrArg some (by kernel_rfl)),func263.trans (congrArg some (by kernel_rfl)),func264.trans (congrArg some (by kernel_rfl)),func265.trans (congrArg some (by kernel_rfl)),func256.trans (congrArg some (by kernel_rfl)),func257.trans (congrArg some (by kernel_rfl)),func258.trans (congrArg some (by kernel_rfl)),func259.trans (congrArg some (by kernel_rfl)),func298.trans (congrArg some (by kernel_rfl)),func299.trans (congrArg some (by kernel_rfl)),func292.trans (congrArg some (by kernel_rfl)),func294.trans (congrArg some (by kernel_rfl)),func295.trans (congrArg some (by kernel_rfl)),func296.trans (congrArg some (by kernel_rfl)),func312.trans (congrArg some (by kernel_rfl)),func313.trans (congrArg some (by kernel_rfl)),func310.trans (congrArg some (by kernel_rfl)),func311.trans (congrArg some (by kernel_rfl)),underlying0,isAgg0,sizeOf0,zeroValue0,underlying2,isAgg2,sizeOf2,zeroValue2,underlying3,isAgg3,sizeOf3,zeroValue3,underlying4,isAgg4,sizeOf4,zeroValue4,underlying5,isAgg5,sizeOf5,zeroValue5,underlying9,isAgg9,sizeOf9,zeroValue9,underlying20,isAgg20,sizeOf20,zeroValue20,underlying21,isAgg21,sizeOf21,zeroValue21,underlying130,isAgg130,sizeOf130,zeroValue130,underlying268,isAgg268,sizeOf268,zeroValue268,underlying311,isAgg311,sizeOf311,zeroValue311,underlying273,isAgg273,sizeOf273,zeroValue273,underlying134,isAgg134,sizeOf134,zeroValue134,underlying135,isAgg135,sizeOf135,zeroValue135,underlying279,isAgg279,sizeOf279,zeroValue279,underlying207,isAgg207,sizeOf207,zeroValue207,underlying330,isAgg330,sizeOf330,zeroValue330,underlying332,isAgg332,sizeOf332,zeroValue332,underlying278,isAgg278,sizeOf278,zeroValue278,underlying281,isAgg281,sizeOf281,zeroValue281,underlying272,isAgg272,sizeOf272,zeroValue272,underlying276,isAgg276,sizeOf276,zeroValue276,underlying321,isAgg321,sizeOf321,zeroValue321,underlying324,isAgg324,sizeOf324,zeroValue324,underlying317,isAgg317,sizeOf317,zeroValue317,underlying318,isAgg318,sizeOf318,underlying339,isAgg339,sizeOf339,zeroValue339,underlying340,isAgg340,sizeOf340,zeroValue340,by kernel_rfl,by kernel_rfl,by kernel_rfl,by kernel_rfl,by kernel_rfl⟩
open Go.RowKit in
theorem Tryz.strconv_Atoi (s : ByteArray) (n : Int) (hl : s.size ≤ 18) (h : Lib.atoi s.data.toList = some n) (w : World) :
    Calls Tryz.prog 170 #[.string s] w fun e w' => e = .returned (.tuple #[.int .i64 n, .nilIface]) ∧ ∃ t, w' = Lib.bytesWorld w 5 t := Any.strconv_Atoi Tryz.lays172 s n hl h w
def Tryz.laysM171_ren : Go.Shelf.Ren := ⟨fun | 171 => 95 | 243 => 165 | 246 => 221 | 283 => 256 | 284 => 257 | 285 => 258 | 286 => 259 | 129 => 293 | 317 => 292 | 318 => 294 | 319 => 295 | 320 => 296 | 337 => 310 | 338 => 311 | n => n, fun | 3 => 3 | 9 => 9 | 2 => 2 | 4 => 4 | 171 => 272 | 0 => 0 | 53 => 273 | 37 => 130 | 5 => 5 | 173 => 276 | 212 => 317 | 51 => 311 | 20 => 20 | 213 => 318 | 46 => 268 | 232 => 339 | 233 => 340 | n => n, fun | 17 => 1 | 18 => 7 | 19 => 8 | n => n⟩
theorem Tryz.laysM171 : Go.Proofs.LaysM.n171 Tryz.prog Tryz.laysM171_ren := {
  mixed := by kernel_rfl
  f129 := Tryz.func293.trans (congrArg some (by kernel_rfl))
  f171 := Tryz.func95.trans (congrArg some (by kernel_rfl))
  f243 := Tryz.func165.trans (congrArg some (by kernel_rfl))
  f246 := Tryz.func221.trans (congrArg some (by kernel_rfl))
  f283 := Tryz.func256.trans (congrArg some (by kernel_rfl))
  f284 := Tryz.func257.trans (congrArg some (by kernel_rfl))
  f285 := Tryz.func258.trans (congrArg some (by kernel_rfl))
  f286 := Tryz.func259.trans (congrArg some (by kernel_rfl))
  f317 := Tryz.func292.trans (congrArg some (by kernel_rfl))
  f318 := Tryz.func294.trans (congrArg some (by kernel_rfl))
  f319 := Tryz.func295.trans (congrArg some (by kernel_rfl))
  f320 := Tryz.func296.trans (congrArg some (by kernel_rfl))
  f337 := Tryz.func310.trans (congrArg some (by kernel_rfl))
  f338 := Tryz.func311.trans (congrArg some (by kernel_rfl))
  t0 := Tryz.underlying0
  a0 := Tryz.isAgg0
  z0 := Tryz.sizeOf0
  v0 := Tryz.zeroValue0
  t2 := Tryz.underlying2
  a2 := Tryz.isAgg2
  z2 := Tryz.sizeOf2
  v2 := Tryz.zeroValue2
  t3 := Tryz.underlying3
  a3 := Tryz.isAgg3
  z3 := Tryz.sizeOf3
  v3 := Tryz.zeroValue3
  t4 := Tryz.underlying4
  a4 := Tryz.isAgg4
  z4 := Tryz.sizeOf4
  v4 := Tryz.zeroValue4
  t5 := Tryz.underlying5
  a5 := Tryz.isAgg5
  z5 := Tryz.sizeOf5
  v5 := Tryz.zeroValue5
  t9 := Tryz.underlying9
  a9 := Tryz.isAgg9
  z9 := Tryz.sizeOf9
  v9 := Tryz.zeroValue9
  t20 := Tryz.underlying20
  a20 := Tryz.isAgg20
  z20 := Tryz.sizeOf20
  v20 := Tryz.zeroValue20
  t37 := Tryz.underlying130
  a37 := Tryz.isAgg130
  z37 := Tryz.sizeOf130
  v37 := Tryz.zeroValue130
  t46 := Tryz.underlying268
  a46 := Tryz.isAgg268
  z46 := Tryz.sizeOf268
  v46 := Tryz.zeroValue268
  t51 := Tryz.underlying311
  a51 := Tryz.isAgg311
  z51 := Tryz.sizeOf311
  v51 := Tryz.zeroValue311
  t53 := Tryz.underlying273
  a53 := Tryz.isAgg273
  z53 := Tryz.sizeOf273
  v53 := Tryz.zeroValue273
  t171 := Tryz.underlying272
  a171 := Tryz.isAgg272
  z171 := Tryz.sizeOf272
  v171 := Tryz.zeroValue272
  t173 := Tryz.underlying276
  a173 := Tryz.isAgg276
  z173 := Tryz.sizeOf276
  v173 := Tryz.zeroValue276
  t212 := Tryz.underlying317
  a212 := Tryz.isAgg317
  z212 := Tryz.sizeOf317
  v212 := Tryz.zeroValue317
  t213 := Tryz.underlying318
  a213 := Tryz.isAgg318
  z213 := Tryz.sizeOf318
  t232 := Tryz.underlying339
  a232 := Tryz.isAgg339
  z232 := Tryz.sizeOf339
  v232 := Tryz.zeroValue339
  t233 := Tryz.underlying340
  a233 := Tryz.isAgg340
  z233 := Tryz.sizeOf340
  v233 := Tryz.zeroValue340
  g17 := by kernel_rfl
  g18 := by kernel_rfl
  g19 := by kernel_rfl
  i0 := by kernel_rfl
  i2 := by kernel_rfl
  i3 := by kernel_rfl
  i4 := by kernel_rfl
  i5 := by kernel_rfl
  i9 := by kernel_rfl
  i20 := by kernel_rfl
  i37 := by kernel_rfl
  i46 := by kernel_rfl
  i51 := by kernel_rfl
  i53 := by kernel_rfl
  i171 := by kernel_rfl
  i173 := by kernel_rfl
  i212 := by kernel_rfl
  i232 := by kernel_rfl
  i233 := by kernel_rfl
  m17 := by kernel_rfl
  m18 := by kernel_rfl
  m19 := by kernel_rfl }
open Go.RowKit Go.Sort Go.Lib in
theorem Tryz.strconv_Itoa (n : Int) (h0 : -9223372036854775808 ≤ n) (h1 : n ≤ 9223372036854775807) (w : World) (htab : Lib.TabIs Tryz.prog w "internal/strconv.uint64pow10" .u64 Lib.pow10Tab) :
    Calls Tryz.prog 95 #[.int .i64 n] w fun e w' => e = .returned (.string ⟨(Lib.itoa n).toArray⟩) ∧ ∃ k os, w' = grow (w.drewN k) os := Any.strconv_Itoa Tryz.laysM171 n h0 h1 w htab
def Tryz.lays171_ren : Go.Shelf.Ren := ⟨fun | 171 => 95 | 243 => 165 | 246 => 221 | 283 => 256 | 284 => 257 | 285 => 258 | 286 => 259 | 129 => 293 | 317 => 292 | 318 => 294 | 319 => 295 | 320 => 296 | 337 => 310 | 338 => 311 | n => n, fun | 3 => 3 | 9 => 9 | 2 => 2 | 4 => 4 | 171 => 272 | 0 => 0 | 53 => 273 | 37 => 130 | 5 => 5 | 173 => 276 | 212 => 317 | 51 => 311 | 20 => 20 | 213 => 318 | 46 => 268 | 232 => 339 | 233 => 340 | n => n, fun | 17 => 1 | 18 => 7 | 19 => 8 | n => n⟩
theorem Tryz.lays171 : Go.Proofs.Lays.n171 Tryz.prog Tryz.lays171_ren := ⟨by kernel_rfl,func293.trans (congrArg some (by kernel_rfl)),func95.trans (congrArg some (by kernel_rfl)),func165.trans (congrArg some (by kernel_rfl)),func221.trans (congrArg some (by kernel_rfl)),func256.trans (congrArg some (by kernel_rfl)),func257.trans (congrArg some (by kernel_rfl)),func258.trans (congrArg some (by kernel_rfl)),func259.trans (congrArg some (by kernel_rfl)),func292.trans (congrArg some (by kernel_rfl)),func294.trans (congrArg some (by kernel_rfl)),func295.trans (congrArg some (by kernel_rfl)),func296.trans (congrArg some (by kernel_rfl)),func310.trans (congrArg some (by kernel_rfl)),func311.trans (congrArg some (by kernel_rfl)),underlying0,isAgg0,sizeOf0,zeroValue0,underlying2,isAgg2,sizeOf2,zeroValue2,underlying3,isAgg3,sizeOf3,zeroValue3,underlying4,isAgg4,sizeOf4,zeroValue4,underlying5,isAgg5,sizeOf5,zeroValue5,underlying9,isAgg9,sizeOf9,zeroValue9,underlying20,isAgg20,sizeOf20,zeroValue20,underlying130,isAgg130,sizeOf130,zeroValue130,underlying268,isAgg268,sizeOf268,zeroValue268,underlying311,isAgg311,sizeOf311,zeroValue311,underlying273,isAgg273,sizeOf273,zeroValue273,underlying272,isAgg272,sizeOf272,zeroValue272,underlying276,isAgg276,sizeOf276,zeroValue276,underlying317,isAgg317,sizeOf317,zeroValue317,underlying318,isAgg318,sizeOf318,underlying339,isAgg339,sizeOf339,zeroValue339,underlying340,isAgg340,sizeOf340,zeroValue340,by kernel_rfl,by kernel_rfl,by kernel_rfl⟩
open Go.RowKit Go.Sort Go.Lib in
theorem Tryz.strconv_Itoa_small (i : Nat) (hi : i < 100) (w : World) :
    Calls Tryz.prog 95 #[.int .i64 i] w fun e w' => e = .returned (.string ⟨(Lib.decDigits i).toArray⟩) ∧ w' = w := Any.strconv_Itoa_small Tryz.lays171 i hi w
def Tryz.laysC172_ren : Go.Shelf.Ren := ⟨fun | 172 => 170 | 244 => 223 | 245 => 224 | 247 => 261 | 279 => 262 | 280 => 263 | 281 => 264 | 282 => 265 | 287 => 298 | 316 => 299 | 171 => 95 | 205 => 300 | 321 => 312 | 322 => 313 | 243 => 165 | 246 => 221 | 283 => 256 | 284 => 257 | 285 => 258 | 286 => 259 | 129 => 293 | 317 => 292 | 318 => 294 | 319 => 295 | 320 => 296 | 337 => 310 | 338 => 311 | n => n, fun | 9 => 9 | 3 => 3 | 75 => 134 | 76 => 135 | 4 => 4 | 5 => 5 | 167 => 278 | 37 => 130 | 0 => 0 | 85 => 279 | 2 => 2 | 168 => 281 | 53 => 273 | 175 => 321 | 46 => 268 | 210 => 324 | 127 => 207 | 145 => 332 | 143 => 330 | 21 => 21 | 171 => 272 | 173 => 276 | 212 => 317 | 51 => 311 | 20 => 20 | 213 => 318 | 232 => 339 | 233 => 340 | 80 => 140 | n => n, fun | 15 => 2 | 16 => 3 | 17 => 1 | 18 => 7 | 19 => 8 | n => n⟩
theorem Tryz.laysC172 : Go.Proofs.LaysC.n172 Tryz.prog Tryz.laysC172_ren := {
  mixed := by kernel_rfl
  f129 := Tryz.func293.trans (congrArg some (by kernel_rfl))
  f171 := Tryz.func95.trans (congrArg some (by kernel_rfl))
  f172 := Tryz.func170.trans (congrArg some (by kernel_rfl))
  f205 := Tryz.func300.trans (congrArg some (by kernel_rfl))
  f243 := Tryz.func165.trans (congrArg some (by kernel_rfl))
  f244 := Tryz.func223.trans (congrArg some (by kernel_rfl))
  f245 := Tryz.func224.trans (congrArg some (by kernel_rfl))
  f246 := Tryz.func221.trans (congrArg some (by kernel_rfl))
  f247 := Tryz.func261.trans (congrArg some (by kernel_rfl))
  f279 := Tryz.func262.trans (congrArg some (by kernel_rfl))
  f280 := Tryz.func263.trans (congrArg some (by kernel_rfl))
  f281 := Tryz.func264.trans (congrArg some (by kernel_rfl))
  f282 := Tryz.func265.trans (congrArg some (by kernel_rfl))
  f283 := Tryz.func256.trans (congrArg some (by kernel_rfl))
  f284 := Tryz.func257.trans (congrArg some (by kernel_rfl))
  f285 := Tryz.func258.trans (congrArg some (by kernel_rfl))
  f286 := Tryz.func259.trans (congrArg some (by kernel_rfl))
  f287 := Tryz.func298.trans (congrArg some (by kernel_rfl))
  f316 := Tryz.func299.trans (congrArg some (by kernel_rfl))
  f317 := Tryz.func292.trans (congrArg some (by kernel_rfl))
  f318 := Tryz.func294.trans (congrArg some (by kernel_rfl))
  f319 := Tryz.func295.trans (congrArg some (by kernel_rfl))
  f320 := Tryz.func296.trans (congrArg some (by kernel_rfl))
  f321 := Tryz.func312.trans (congrArg some (by kernel_rfl))
  f322 := Tryz.func313.trans (congrArg some (by kernel_rfl))
  f337 := Tryz.func310.trans (congrArg some (by kernel_rfl))
  f338 := Tryz.func311.trans (congrArg some (by kernel_rfl))
  t0 := Tryz.underlying0
  a0 := Tryz.isAgg0
  z0 := Tryz.sizeOf0
  v0 := Tryz.zeroValue0
  t2 := Tryz.underlying2
  a2 := Tryz.isAgg2
  z2 := Tryz.sizeOf2
  v2 := Tryz.zeroValue2
  t3 := Tryz.underlying3
  a3 := Tryz.isAgg3
  z3 := Tryz.sizeOf3
  v3 := Tryz.zeroValue3
  t4 := Tryz.underlying4
  a4 := Tryz.isAgg4
  z4 := Tryz.sizeOf4
  v4 := Tryz.zeroValue4
  t5 := Tryz.underlying5
  a5 := Tryz.isAgg5
  z5 := Tryz.sizeOf5
  v5 := Tryz.zeroValue5
  t9 := Tryz.underlying9
  a9 := Tryz.isAgg9
  z9 := Tryz.sizeOf9
  v9 := Tryz.zeroValue9
  t20 := Tryz.underlying20
  a20 := Tryz.isAgg20
  z20 := Tryz.sizeOf20
  v20 := Tryz.zeroValue20
  t21 := Tryz.underlying21
  a21 := Tryz.isAgg21
  z21 := Tryz.sizeOf21
  v21 := Tryz.zeroValue21
  t37 := Tryz.underlying130
  a37 := Tryz.isAgg130
  z37 := Tryz.sizeOf130
  v37 := Tryz.zeroValue130
  t46 := Tryz.underlying268
  a46 := Tryz.isAgg268
  z46 := Tryz.sizeOf268
  v46 := Tryz.zeroValue268
  t51 := Tryz.underlying311
  a51 := Tryz.isAgg311
  z51 := Tryz.sizeOf311
  v51 := Tryz.zeroValue311
  t53 := Tryz.underlying273
  a53 := Tryz.isAgg273
  z53 := Tryz.sizeOf273
  v53 := Tryz.zeroValue273
  t75 := Tryz.underlying134
  a75 := Tryz.isAgg134
  z75 := Tryz.sizeOf134
  v75 := Tryz.zeroValue134
  t76 := Tryz.underlying135
  a76 := Tryz.isAgg135
  z76 := Tryz.sizeOf135
  v76 := Tryz.zeroValue135
  t85 := Tryz.underlying279
  a85 := Tryz.isAgg279
  z85 := Tryz.sizeOf279
  v85 := Tryz.zeroValue279
  t127 := Tryz.underlying207
  a127 := Tryz.isAgg207
  z127 := Tryz.sizeOf207
  v127 := Tryz.zeroValue207
  t143 := Tryz.underlying330
  a143 := Tryz.isAgg330
  z143 := Tryz.sizeOf330
  v143 := Tryz.zeroValue330
  t145 := Tryz.underlying332
  a145 := Tryz.isAgg332
  z145 := Tryz.sizeOf332
  v145 := Tryz.zeroValue332
  t167 := Tryz.underlying278
  a167 := Tryz.isAgg278
  z167 := Tryz.sizeOf278
  v167 := Tryz.zeroValue278
  t168 := Tryz.underlying281
  a168 := Tryz.isAgg281
  z168 := Tryz.sizeOf281
  v168 := Tryz.zeroValue281
  t171 := Tryz.underlying272
  a171 := Tryz.isAgg272
  z171 := Tryz.sizeOf272
  v171 := Tryz.zeroValue272
  t173 := Tryz.underlying276
  a173 := Tryz.isAgg276
  z173 := Tryz.sizeOf276
  v173 := Tryz.zeroValue276
  t175 := Tryz.underlying321
  a175 := Tryz.isAgg321
  z175 := Tryz.sizeOf321
  v175 := Tryz.zeroValue321
  t210 := Tryz.underlying324
  a210 := Tryz.isAgg324
  z210 := Tryz.sizeOf324
  v210 := Tryz.zeroValue324
  t212 := Tryz.underlying317
  a212 := Tryz.isAgg317
  z212 := Tryz.sizeOf317
  v212 := Tryz.zeroValue317
  t213 := Tryz.underlying318
  a213 := Tryz.isAgg318
  z213 := Tryz.sizeOf318
  t232 := Tryz.underlying339
  a232 := Tryz.isAgg339
  z232 := Tryz.sizeOf339
  v232 := Tryz.zeroValue339
  t233 := Tryz.underlying340
  a233 := Tryz.isAgg340
  z233 := Tryz.sizeOf340
  v233 := Tryz.zeroValue340
  g15 := by kernel_rfl
  g16 := by kernel_rfl
  g17 := by kernel_rfl
  g18 := by kernel_rfl
  g19 := by kernel_rfl
  t80 := Tryz.underlying140
  a80 := Tryz.isAgg140
  z80 := Tryz.sizeOf140
  v80 := Tryz.zeroValue140
  i0 := by kernel_rfl
  i2 := by kernel_rfl
  i3 := by kernel_rfl
  i4 := by kernel_rfl
  i5 := by kernel_rfl
  i9 := by kernel_rfl
  i20 := by kernel_rfl
  i21 := by kernel_rfl
  i37 := by kernel_rfl
  i46 := by kernel_rfl
  i51 := by kernel_rfl
  i53 := by kernel_rfl
  i75 := by kernel_rfl
  i76 := by kernel_rfl
  i80 := by kernel_rfl
  i85 := by kernel_rfl
  i127 := by kernel_rfl
  i143 := by kernel_rfl
  i145 := by kernel_rfl
  i167 := by kernel_rfl
  i168 := by kernel_rfl
  i171 := by kernel_rfl
  i173 := by kernel_rfl
  i175 := by kernel_rfl
  i210 := by kernel_rfl
  i212 := by kernel_rfl
  i232 := by kernel_rfl
  i233 := by kernel_rfl
  m15 := by kernel_rfl
  m16 := by kernel_rfl
  m17 := by kernel_rfl
  m18 := by kernel_rfl
  m19 := by kernel_rfl
  c0 := by kernel_rfl
  c2 := by kernel_rfl
  c3 := by kernel_rfl
  c4 := by kernel_rfl
  c5 := by kernel_rfl
  c9 := by kernel_rfl
  c20 := by kernel_rfl
  c21 := by kernel_rfl
  c37 := by kernel_rfl
  c46 := by kernel_rfl
  c51 := by kernel_rfl
  c53 := by kernel_rfl
  c75 := by kernel_rfl
  c76 := by kernel_rfl
  c80 := by kernel_rfl
  c85 := by kernel_rfl
  c127 := by kernel_rfl
  c143 := by kernel_rfl
  c145 := by kernel_rfl
  c167 := by kernel_rfl
  c168 := by kernel_rfl
  c171 := by kernel_rfl
  c173 := by kernel_rfl
  c175 := by kernel_rfl
  c210 := by kernel_rfl
  c212 := by kernel_rfl
  c213 := by kernel_rfl
  c232 := by kernel_rfl
  c233 := by kernel_rfl }
open Go.RowKit in
theorem Tryz.strconv_Atoi_ok (s : ByteArray) (hmax : s.size ≤ 9223372036854775806) (v : Int) (h : Lib.atoiAll s.data.toList = .ok v) (w : World) :
    Calls Tryz.prog 170 #[.string s] w fun e w' => e = .returned (.tuple #[.int .i64 v, .nilIface]) ∧ (w' = w ∨ ∃ t, w' = Lib.bytesWorld w 5 t) := Any.strconv_Atoi_ok Tryz.laysC172 s hmax v h w
def Tryz.lays145_ren : Go.Shelf.Ren := ⟨fun | 145 => 267 | 220 => 301 | 219 => 274 | 217 => 303 | 225 => 304 | 224 => 305 | 267 => 306 | 266 => 314 | 314 => 315 | n => n, fun | 9 => 9 | 4 => 4 | 59 => 284 | 3 => 3 | 5 => 5 | 46 => 268 | 146 => 312 | 51 => 311 | n => n, fun | 1 => 4 | n => n⟩
theorem Tryz.lays145 : Go.Proofs.Lays.n145 Tryz.prog Tryz.lays145_ren := ⟨by kernel_rfl,func267.trans (congrArg some (by kernel_rfl)),func303.trans (congrArg some (by kernel_rfl)),func274.trans (congrArg some (by kernel_rfl)),func301.trans (congrArg some (by kernel_rfl)),func305.trans (congrArg some (by kernel_rfl)),func304.trans (congrArg some (by kernel_rfl)),func314.trans (congrArg some (by kernel_rfl)),func306.trans (congrArg some (by kernel_rfl)),func315.trans (congrArg some (by kernel_rfl)),underlying3,isAgg3,sizeOf3,zeroValue3,underlying4,isAgg4,sizeOf4,zeroValue4,underlying5,isAgg5,sizeOf5,zeroValue5,underlying9,isAgg9,sizeOf9,zeroValue9,underlying268,isAgg268,sizeOf268,zeroValue268,underlying311,isAgg311,sizeOf311,zeroValue311,underlying284,isAgg284,sizeOf284,zeroValue284,underlying312,isAgg312,sizeOf312,zeroValue312,by kernel_rfl⟩
open Go.RowKit Go.Lib in
theorem Tryz.strings_Cut (s sep : ByteArray) (m : Int) (w : World) (hs : s.size < 4294967281) (hm : w.cell? ⟨4, 0, none⟩ = some (.int .i64 m)) :
    Calls Tryz.prog 267 #[.string s, .string sep] w fun e w' => e = .returned (.tuple #[.string ⟨(Lib.cut s.data.toList sep.data.toList).1.toArray⟩, .string ⟨(Lib.cut s.data.toList sep.data.toList).2.1.toArray⟩, .bool (Lib.cut s.data.toList sep.data.toList).2.2]) ∧ ∃ n, w' = w.drewN n := Any.strings_Cut Tryz.lays145 s sep m w hs hm
def Tryz.lays101_ren : Go.Shelf.Ren := ⟨fun | 101 => 171 | 208 => 225 | 206 => 174 | n => n, fun | 9 => 9 | 4 => 4 | 3 => 3 | n => n, fun | n => n⟩
theorem Tryz.lays101 : Go.Proofs.Lays.n101 Tryz.prog Tryz.lays101_ren := ⟨by kernel_rfl,func171.trans (congrArg some (by kernel_rfl)),func174.trans (congrArg some (by kernel_rfl)),func225.trans (congrArg some (by kernel_rfl)),underlying3,isAgg3,sizeOf3,zeroValue3,underlying4,isAgg4,sizeOf4,zeroValue4,underlying9,isAgg9,sizeOf9,zeroValue9⟩
open Go.RowKit Go.Lib in
theorem Tryz.strings_TrimPrefix (s p : ByteArray) (w : World) :
    Calls Tryz.prog 171 #[.string s, .string p] w fun e w' => e = .returned (.string ⟨(Lib.trimPrefix s.data.toList p.data.toList).toArray⟩) ∧ w' = w := Any.strings_TrimPrefix Tryz.lays101 s p w
def Tryz.lays146_ren : Go.Shelf.Ren := ⟨fun | 146 => 100 | 221 => 173 | 268 => 229 | 138 => 230 | 143 => 231 | 195 => 271 | 197 => 272 | 218 => 273 | 219 => 274 | 260 => 302 | 217 => 303 | 225 => 304 | 224 => 305 | 267 => 306 | 266 => 314 | 314 => 315 | n => n, fun | 9 => 9 | 31 => 146 | 3 => 3 | 4 => 4 | 0 => 0 | 105 => 288 | 21 => 21 | 5 => 5 | 46 => 268 | 119 => 333 | 139 => 336 | 138 => 335 | 146 => 312 | 51 => 311 | n => n, fun | 1 => 4 | 3 => 5 | 4 => 6 | n => n⟩
theorem Tryz.lays146 : Go.Proofs.Lays.n146 Tryz.prog Tryz.lays146_ren := ⟨by kernel_rfl,func230.trans (congrArg some (by kernel_rfl)),func231.trans (congrArg some (by kernel_rfl)),func100.trans (congrArg some (by kernel_rfl)),func271.trans (congrArg some (by kernel_rfl)),func272.trans (congrArg some (by kernel_rfl)),func303.trans (congrArg some (by kernel_rfl)),func273.trans (congrArg some (by kernel_rfl)),func274.trans (congrArg some (by kernel_rfl)),func173.trans (congrArg some (by kernel_rfl)),func305.trans (congrArg some (by kernel_rfl)),func304.trans (congrArg some (by kernel_rfl)),func302.trans (congrArg some (by kernel_rfl)),func314.trans (congrArg some (by kernel_rfl)),func306.trans (congrArg some (by kernel_rfl)),func229.trans (congrArg some (by kernel_rfl)),func315.trans (congrArg some (by kernel_rfl)),underlying0,isAgg0,sizeOf0,zeroValue0,underlying3,isAgg3,sizeOf3,zeroValue3,underlying4,isAgg4,sizeOf4,zeroValue4,underlying5,isAgg5,sizeOf5,zeroValue5,underlying9,isAgg9,sizeOf9,zeroValue9,underlying21,isAgg21,sizeOf21,zeroValue21,underlying146,isAgg146,sizeOf146,zeroValue146,underlying268,isAgg268,sizeOf268,zeroValue268,underlying311,isAgg311,sizeOf311,zeroValue311,underlying288,isAgg288,sizeOf288,zeroValue288,underlying333,isAgg333,sizeOf333,underlying335,isAgg335,sizeOf335,zeroValue335,underlying336,isAgg336,sizeOf336,zeroValue336,underlying312,isAgg312,sizeOf312,zeroValue312,by kernel_rfl,by kernel_rfl,by kernel_rfl⟩
open Go.RowKit Go.Lib in
theorem Tryz.strings_Split (s sep : ByteArray) (m : Int) (w : World) (hs : s.size < 4294967281) (hm : w.cell? ⟨4, 0, none⟩ = some (.int .i64 m)) (h1 : 1 ≤ sep.size) :
    Calls Tryz.prog 100 #[.string s, .string sep] w fun e w' =>
      e = .returned (.slice (some ⟨w.heap.size, 0, none⟩) (Lib.countB s sep + 1) (Lib.countB s sep + 1)) ∧ w' = w.alloc (.cells ((Lib.splitB sep 0 (Lib.countB s sep) s).map Value.string).toArray 9) := Any.strings_Split Tryz.lays146 (by kernel_rfl) s sep m w hs hm h1
def Tryz.lays105_ren : Go.Shelf.Ren := ⟨fun | 105 => 217 | 212 => 254 | 99 => 101 | 165 => 222 | 166 => 94 | 170 => 255 | 169 => 98 | 263 => 290 | 264 => 291 | 206 => 174 | 240 => 164 | 241 => 260 | 276 => 220 | 277 => 297 | n => n, fun | 9 => 9 | 3 => 3 | 4 => 4 | 20 => 20 | 0 => 0 | 46 => 268 | 109 => 269 | 5 => 5 | 72 => 132 | 76 => 135 | 51 => 311 | 146 => 312 | 53 => 273 | 148 => 314 | 70 => 129 | 37 => 130 | 75 => 134 | 127 => 207 | 164 => 245 | 80 => 140 | n => n, fun | n => n⟩
theorem Tryz.lays105 : Go.Proofs.Lays.n105 Tryz.prog Tryz.lays105_ren := ⟨by kernel_rfl,func101.trans (congrArg some (by kernel_rfl)),func217.trans (congrArg some (by kernel_rfl)),func222.trans (congrArg some (by kernel_rfl)),func94.trans (congrArg some (by kernel_rfl)),func98.trans (congrArg some (by kernel_rfl)),func255.trans (congrArg some (by kernel_rfl)),func174.trans (congrArg some (by kernel_rfl)),func254.trans (congrArg some (by kernel_rfl)),func164.trans (congrArg some (by kernel_rfl)),func260.trans (congrArg some (by kernel_rfl)),func290.trans (congrArg some (by kernel_rfl)),func291.trans (congrArg some (by kernel_rfl)),func220.trans (congrArg some (by kernel_rfl)),func297.trans (congrArg some (by kernel_rfl)),underlying0,isAgg0,sizeOf0,zeroValue0,underlying3,isAgg3,sizeOf3,zeroValue3,underlying4,isAgg4,sizeOf4,zeroValue4,underlying5,isAgg5,sizeOf5,zeroValue5,underlying9,isAgg9,sizeOf9,zeroValue9,underlying20,isAgg20,sizeOf20,zeroValue20,underlying130,isAgg130,sizeOf130,zeroValue130,underlying268,isAgg268,sizeOf268,zeroValue268,underlying311,isAgg311,sizeOf311,zeroValue311,underlying273,isAgg273,sizeOf273,zeroValue273,underlying129,isAgg129,sizeOf129,zeroValue129,underlying132,isAgg132,sizeOf132,zeroValue132,underlying134,isAgg134,sizeOf134,zeroValue134,underlying135,isAgg135,sizeOf135,zeroValue135,underlying269,isAgg269,sizeOf269,zeroValue269,underlying207,isAgg207,sizeOf207,zeroValue207,underlying312,isAgg312,sizeOf312,zeroValue312,underlying314,isAgg314,sizeOf314,zeroValue314,underlying245,isAgg245,sizeOf245,zeroValue245⟩
theorem Tryz.Builder_Extra_105 : Builder.Extra Tryz.prog Tryz.lays105_ren := {
  sizeBuilder := by kernel_rfl
  liesBuilder := by kernel_rfl
  t5 := Tryz.underlying5
  a5 := Tryz.isAgg5
  z5 := Tryz.sizeOf5
  v5 := Tryz.zeroValue5
  infoByte := by kernel_rfl
  cellsByte := by kernel_rfl
  sizeByte := by kernel_rfl
  neB5 := by decide }
open Go.RowKit Go.Lib in
theorem Tryz.strings_Repeat (s : ByteArray) (c : Nat) (w : World) (hc : c ≤ 9223372036854775807) (hlen : s.size * c ≤ 140737488355328) :
    Calls Tryz.prog 217 #[.string s, .int .i64 c] w fun e w' => e = .returned (.string ⟨(Lib.repeatL s.data.toList c).toArray⟩) ∧ Below w.heap.size w w' := Any.strings_Repeat Tryz.lays105 Tryz.Builder_Extra_105 s c w hc hlen
end Go.Proofs
