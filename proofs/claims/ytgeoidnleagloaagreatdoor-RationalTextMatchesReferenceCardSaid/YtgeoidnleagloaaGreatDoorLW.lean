/- Contracts of library functions in the forms that the walks use; what of the package-level variables is needed. -/
import Derived.Test.YtgeoidnleagloaaGreatDoorSh
import Derived.Test.YtgeoidnleagloaaGreatDoorWL
import Derived.Test.YtgeoidnleagloaaGreatDoorPL
import Derived.Test.YtgeoidnleagloaaGreatDoorRA
import Derived.WalkSmall
set_option linter.unusedVariables false
set_option linter.unusedSimpArgs false
namespace Go.Proofs.YtgeoidnleagloaaGreatDoor
open Go.RowKit Yk

/-- What the walks need of the library's package-level variables. -/
def Glob (w : World) : Prop :=
  (∃ m, w.cell? ⟨0, 0, none⟩ = some (.int .i64 m)) ∧ Lib.TabIs Tryz.prog w "internal/strconv.uint64pow10" .u64 Lib.pow10Tab ∧ 1 < w.heap.size
theorem gPow : Tryz.prog.globalNamed "internal/strconv.uint64pow10" = some 1 := by kernel_rfl
theorem Glob.below {w w' : World} (h : Glob w) (hb : Below w.heap.size w w') : Glob w' := by
  obtain ⟨⟨m, h1⟩, h2, h3⟩ := h
  refine ⟨⟨m, ?_⟩, var?_below hb gPow h3 h2, Nat.lt_of_lt_of_le h3 hb.size⟩
  rw [hb.cell (p := ⟨0, 0, none⟩) (World.block_lt_of_cell? w _ h1)]
  exact h1

theorem trimPrefix_body (l : List UInt8) : Lib.trimPrefix l [45] = body l := by
  unfold Lib.trimPrefix Lib.hasPrefix body
  cases l with
  | nil => simp
  | cons c t =>
    by_cases h : c = 45
    · subst h; simp
    · have h2 : ¬ (45 = c) := fun e => h e.symm
      simp [List.isPrefixOf, h, h2]
theorem libTrimPrefix (s : ByteArray) (w : World) :
    Calls Tryz.prog 102 #[.string s, .string ⟨#[45]⟩] w fun e w' => ∃ t, e = .returned (.string t) ∧ t.data.toList = body s.data.toList ∧ w = w' := by
  refine (Tryz.strings_TrimPrefix s ⟨#[45]⟩ w).mono ?_
  rintro e w' ⟨rfl, rfl⟩
  exact ⟨_, rfl, by rw [← trimPrefix_body], rfl⟩
theorem digits_contains (c : UInt8) : [48, 49, 50, 51, 52, 53, 54, 55, 56, 57].contains c = dig c := by
  rw [Bool.eq_iff_iff, dig_iff]
  simp only [List.contains_iff_mem, List.mem_cons, List.not_mem_nil, or_false]
  constructor
  · rintro (h | h | h | h | h | h | h | h | h | h) <;> subst h <;> decide
  · intro h
    have : ∀ k : Fin 10, c.toNat = 48 + k.val → c = UInt8.ofNat (48 + k.val) := by
      intro k hk; apply UInt8.toNat_inj.1; rw [hk]; simp; omega
    have h2 := this ⟨c.toNat - 48, by omega⟩ (by simp; omega)
    simp only at h2
    have h3 : c.toNat - 48 = 0 ∨ c.toNat - 48 = 1 ∨ c.toNat - 48 = 2 ∨ c.toNat - 48 = 3 ∨ c.toNat - 48 = 4 ∨ c.toNat - 48 = 5 ∨ c.toNat - 48 = 6 ∨ c.toNat - 48 = 7 ∨ c.toNat - 48 = 8 ∨ c.toNat - 48 = 9 := by omega
    rcases h3 with h | h | h | h | h | h | h | h | h | h <;> rw [h] at h2 <;> rw [h2] <;> decide
theorem dropWhile_nil_iff (p : UInt8 → Bool) (l : List UInt8) : l.dropWhile p = [] ↔ l.all p = true := by
  induction l with
  | nil => simp
  | cons a t ih =>
    rw [List.dropWhile_cons]
    split
    · rename_i h; rw [ih]; simp [h]
    · rename_i h; simp [h]
theorem trimS_nil (l : List UInt8) : Lib.trimS l [48, 49, 50, 51, 52, 53, 54, 55, 56, 57] = [] ↔ l.all dig = true := by
  have hc : (fun c : UInt8 => [48, 49, 50, 51, 52, 53, 54, 55, 56, 57].contains c) = dig := funext digits_contains
  unfold Lib.trimS Lib.trimLeftS Lib.trimRightS
  rw [hc, dropWhile_nil_iff, List.all_reverse]
  constructor
  · intro h
    cases hd : l.reverse.dropWhile dig with
    | nil =>
      have := (dropWhile_nil_iff dig l.reverse).1 hd
      rwa [List.all_reverse] at this
    | cons a t =>
      exfalso
      have h1 : dig a = false := by
        have := List.head?_dropWhile_not dig l.reverse
        rw [hd] at this
        simpa using this
      rw [hd] at h
      simp [h1] at h
  · intro h
    have : l.reverse.dropWhile dig = [] := (dropWhile_nil_iff dig l.reverse).2 (by rwa [List.all_reverse])
    rw [this]; rfl
theorem libTrimDigits (s : ByteArray) (w : World) (hs : s.size ≤ maxLen) :
    Calls Tryz.prog 103 #[.string s, .string ⟨#[48, 49, 50, 51, 52, 53, 54, 55, 56, 57]⟩] w fun e w' => ∃ t, e = .returned (.string t) ∧ t.toList.isEmpty = s.data.toList.all dig ∧ Below w.heap.size w w' := by
  refine (Any.strings_Trim_laid Tryz.lays160 (by kernel_rfl) s ⟨#[48, 49, 50, 51, 52, 53, 54, 55, 56, 57]⟩ w (by simpa [maxLen] using hs) (by decide) (ascii_of_all (by decide))).mono ?_
  rintro e w' ⟨rfl, hb⟩
  refine ⟨_, rfl, ?_, hb⟩
  rw [ba_toList]
  have h := trimS_nil s.data.toList
  rw [Bool.eq_iff_iff, List.isEmpty_iff]
  exact h
end Go.Proofs.YtgeoidnleagloaaGreatDoor
