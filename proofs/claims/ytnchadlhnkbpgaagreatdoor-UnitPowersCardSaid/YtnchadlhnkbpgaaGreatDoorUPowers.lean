/- UnitPowers: for all integers the law returns true, and its arguments read as they did. Conditions: those of the given card (the listed variables of the library read as their initialisers lay them). -/
import Derived.Test.YtnchadlhnkbpgaaGreatDoorZg
import Derived.Test.YtnchadlhnkbpgaaGreatDoorCards
import Derived.Test.YtnchadlhnkbpgaaGreatDoorTie
import Derived.SevenTiedAt
set_option linter.unusedVariables false
set_option linter.unusedSimpArgs false
namespace Yk
open Go Go.Sy
def powPre (r : RS) (n : Int) : Bool := uzR r && (withinF n (-3) 3 && !(iterF r n.natAbs).1)
def powR (r : RS) (n : Int) : RS × Bool := bif decide (0 ≤ n) then ((iterF r n.natAbs).2, true) else ((rDiv rI (iterF r n.natAbs).2).1, (rDiv rI (iterF r n.natAbs).2).2 == 0)
end Yk
namespace Go.Proofs.YtnchadlhnkbpgaaGreatDoor
open Go Go.RowKit Go.Sy Yk
def grpG1 (ab ba : Un × Int) : Bool := !eqU ab.1 ba.1 || ab.2 != ba.2
def grpT2 (a b p q r : Un × Int) (s : Int) (K : SV → Prop) : Prop :=
  suP p.1 q.1 (K (cB.enc ((p.2 != 0 || q.2 != 0 || r.2 != 0 || (mulF p.1 q.1).2 != 0 || alikeB (mulF p.1 q.1).1 r.1) && ((s == 0) == (s == 0 && a.2 != 0 && p.2 != 0)))))
def grpT1 (a b c : Un) (ab ba bc : Un × Int) (n m : Int) (K : SV → Prop) : Prop :=
  suP ab.1 c (suP a bc.1 (suP ab.1 b (needB (impB (!grpG1 ab ba && ab.2 == 0) (szU1 ab.1)) (branch (grpG1 ab ba || ab.2 == 0 && (!validF ab.1 || ab.1.s == 0)) (K (cB.enc false))
    (branch (ab.2 == 0 && bc.2 == 0 && (mulF ab.1 c).2 == 0 && (mulF a bc.1).2 == 0 && !alikeB (mulF ab.1 c).1 (mulF a bc.1).1 || ab.2 == 0 && (divF ab.1 b).2 == 0 && !alikeB (divF ab.1 b).1 a) (K (cB.enc false))
      (pkT n 7 (needB (inR .i64 (pickF n 7 - 3)) (pkT m 7 (needB (inR .i64 (pickF m 7 - 3)) (needB (szU1 a) (needB (szU1 a) (needB (inR .i64 (pickF n 7 - 3 + (pickF m 7 - 3))) (needB (szU1 a)
        (grpT2 ab ba (powF a (pickF n 7 - 3, 1)) (powF a (pickF m 7 - 3, 1)) (powF a (pickF n 7 - 3 + (pickF m 7 - 3), 1)) a.s K))))))))))))))
def grpT (a b c : Un) (n m : Int) (K : SV → Prop) : Prop := suP a b (suP b a (suP b c (grpT1 a b c (mulF a b) (mulF b a) (mulF b c) n m K)))
theorem group_vc (x y z : I4) (n m : Int) (K : SV → Prop) : runL b5 noA 3 5 [c44.enc x, c44.enc y, c44.enc z, cI.enc n, cI.enc m] K =
    needB (u4 x) (needB (u4 y) (needB (u4 z) (grpT (makeU x) (makeU y) (makeU z) n m K))) := by kernel_rfl
def rootG (a : Un) (r back : Un × Int) : Bool := r.2 == 0 && back.2 == 0 && alikeB back.1 a
def rootT (a : Un) (n : Int) (r : Un × Int) (K : SV → Prop) : Prop :=
  branch (a.s == 0 || !eqR a.f rI) (K (cB.enc (r.2 == 70 && eqU r.1 noU)))
    (needB (szU1 r.1) (needB (impB (!(r.2 != 0 && r.2 == 70) && rootG a r (powF r.1 (n, 1))) (szU1 r.1)) (K (cB.enc (r.2 != 0 && r.2 == 70 || rootG a r (powF r.1 (n, 1)) && validF r.1)))))
theorem roots_vc (x : I4) (n : Int) (K : SV → Prop) : runL b5 noA 3 6 [c44.enc x, cI.enc n] K =
    needB (u4 x) (pkT n 4 (needB (inR .i64 (2 + pickF n 4)) (needB (szU1 (makeU x)) (rootT (makeU x) (2 + pickF n 4) (powF (makeU x) (1, 2 + pickF n 4)) K)))) := by kernel_rfl
abbrev WX := Int × RS
def annPw (I : WX → Prop) (N : Int) : FuncId → Nat → Option (AS → Ann) := fun f k => bif Nat.beq f 49 && Nat.beq k 3 then some (fun A => { X := WX, inv := I, tm := fun x => [(7, .val (.int .i64 x.1))], st := [(idAt A 6, fun x => [.val (.string x.2.1), .val (.string x.2.2)])], mu := fun x => (N - x.1).toNat, keep := [1, 2, 4, 6] }) else none
def pwM (n p : Int) (v : RS) (z : WX) : Prop :=
  (TV.v (cI.enc p) = TV.v (cI.enc z.1) ∧ (TV.v (cI.enc n) = TV.v (cI.enc n)) ∧ ptrE 0 ∧ ptrE 1 ∧ ptrE 4 ∧ True) ∧ (True ∧ ((([SV.val (.string v.1), .val (.string v.2)] : List SV) = [.val (.string z.2.1), .val (.string z.2.2)] ∧ True) ∧ True))
def pwT (I : WX → Prop) (N : Int) (r : RS) (n : Int) (K : SV → Prop) : Prop :=
  ∃ z0 : WX, I z0 ∧ (pwM n 0 rI z0 ∧ ∀ z : WX, I z → needB (inR .i64 (-n)) (branch (decide (z.1 < maxI n))
    (rrP z.2 r (branch ((rMul z.2 r).2 != 0) (K ((cP cR cB).enc (z.2, false))) (needB (inR .i64 (z.1 + 1)) (∃ z' : WX, I z' ∧ ((N - z'.1).toNat < (N - z.1).toNat ∧ pwM n (z.1 + 1) (rMul z.2 r).1 z')))))
    (branch (decide (0 ≤ n)) (K ((cP cR cB).enc (z.2, true))) (rrP rI z.2 (K ((cP cR cB).enc ((rDiv rI z.2).1, (rDiv rI z.2).2 == 0)))))))
theorem power7_vc (I : WX → Prop) (N : Int) (r : RS) (n : Int) (K : SV → Prop) : runL b5 (annPw I N) 3 49 [cR.enc r, cI.enc n] K = pwT I N r n K := by kernel_rfl
end Go.Proofs.YtnchadlhnkbpgaaGreatDoor
namespace Go.Proofs.YtnchadlhnkbpgaaGreatDoor
open Go Go.RowKit Go.Sy Yk
theorem powF_sz {a : Un} (h : szU1 a = true) (p : Int × Int) : szU1 (powF a p).1 = true := by
  unfold powF
  cases (!factorF a || !fitsF p || (p.2 != 1 && !eqR a.f rI)) with
  | true => exact noU_sz
  | false =>
    simp only [cond_false]
    cases (!(upto7 (scl7 p a.d)).2 || (invF p.1 (bif p.2 == 1 then iterF a.f p.1.natAbs else (false, rI))).1) with
    | true => exact noU_sz
    | false =>
      have : uzR (invF p.1 (bif p.2 == 1 then iterF a.f p.1.natAbs else (false, rI))).2 = true := by
        have h2 : uzR (bif p.2 == 1 then iterF a.f p.1.natAbs else (false, rI)).2 = true := by
          cases p.2 == 1 with
          | true => exact iterF_uz _ _
          | false => exact uz_rI
        unfold invF
        cases decide (p.1 < 0) && !(bif p.2 == 1 then iterF a.f p.1.natAbs else (false, rI)).1 with
        | true => exact rDiv_uz _ _
        | false => exact h2
      unfold szU1 plainF
      simp only [cond_false]
      rw [this]; exact (by decide : (true && uzR rZ) = true)
theorem grp_mul {a b c : Un} (ha : UOK 5 a) (hb : UOK 5 b) (hc : UOK 5 c) :
    (grpG1 (mulF a b) (mulF b a) || (mulF a b).2 == 0 && (!validF (mulF a b).1 || (mulF a b).1.s == 0)) = false ∧
    ((mulF a b).2 == 0 && (mulF b c).2 == 0 && (mulF (mulF a b).1 c).2 == 0 && (mulF a (mulF b c).1).2 == 0 && !alikeB (mulF (mulF a b).1 c).1 (mulF a (mulF b c).1).1 || (mulF a b).2 == 0 && (divF (mulF a b).1 b).2 == 0 && !alikeB (divF (mulF a b).1 b).1 a) = false := by
  have hcomm : grpG1 (mulF a b) (mulF b a) = false := by
    unfold grpG1
    rw [← mul_comm7 ha hb, eqU_self, bne_self_eq_false]; rfl
  obtain ⟨f1, _, m1, u1, z1⟩ := mul_cases ha hb (by decide)
  have q1 : 0 < qV f1 := by rw [u1]; exact Rat.mul_pos ha.pos hb.pos
  have kb := kindM_bd (a := a) (b := b) ha.kbd hb.kbd
  have ra := red7_fits (valid_iff.1 ha.valid).1
  have rb := red7_fits (valid_iff.1 hb.valid).1
  have rc := red7_fits (valid_iff.1 hc.valid).1
  by_cases h : a.s ≠ 0 ∧ b.s ≠ 0 ∧ fits7 (map7 (addF 1) a.d b.d) = true
  · rw [if_pos h] at z1
    have hab := plain_UOK h.2.2 m1 q1 kb (by decide)
    have sab := plain_ne (map7 (addF 1) a.d b.d) f1 (kindM a b)
    rw [hcomm, z1]
    refine ⟨?_, ?_⟩
    · simp only [hab.valid, beq_eq_false_iff_ne.2 sab, Bool.not_true, Bool.or_self, Bool.and_false]
    have hback : ((divF (plainF (map7 (addF 1) a.d b.d) f1 (kindM a b)) b).2 == 0 && !alikeB (divF (plainF (map7 (addF 1) a.d b.d) f1 (kindM a b)) b).1 a) = false := by
      obtain ⟨f3, _, m3, u3, z3⟩ := div_cases hab hb (by decide)
      rw [z3]
      split
      · have e1 : f3 = a.f := few_eq m3 ha.f (by rw [u3]; show qV f1 / qV b.f = qV a.f; rw [u1]; have := hb.ne; grind)
        have e2 : map7 (addF (-1)) (map7 (addF 1) a.d b.d) b.d = a.d := map7_back ra rb
        rw [alikeB_iff.2 ⟨e2, e1⟩]; rfl
      · rfl
    have hassoc : ((mulF b c).2 == 0 && (mulF (plainF (map7 (addF 1) a.d b.d) f1 (kindM a b)) c).2 == 0 && (mulF a (mulF b c).1).2 == 0 && !alikeB (mulF (plainF (map7 (addF 1) a.d b.d) f1 (kindM a b)) c).1 (mulF a (mulF b c).1).1) = false := by
      obtain ⟨f2, _, m2, u2, z2⟩ := mul_cases hb hc (by decide)
      have q2 : 0 < qV f2 := by rw [u2]; exact Rat.mul_pos hb.pos hc.pos
      by_cases h2 : b.s ≠ 0 ∧ c.s ≠ 0 ∧ fits7 (map7 (addF 1) b.d c.d) = true
      · rw [if_pos h2] at z2
        have hbc := plain_UOK h2.2.2 m2 q2 (kindM_bd (a := b) (b := c) hb.kbd hc.kbd) (by decide)
        rw [z2]
        obtain ⟨f3, _, m3, u3, z3⟩ := mul_cases hab hc (by decide)
        obtain ⟨f4, _, m4, u4, z4⟩ := mul_cases ha hbc (by decide)
        rw [z3, z4]
        split
        · split
          · have e1 : f3 = f4 := few_eq m3 m4 (by rw [u3, u4]; show qV f1 * qV c.f = qV a.f * qV f2; rw [u1, u2]; grind)
            have e2 : map7 (addF 1) (map7 (addF 1) a.d b.d) c.d = map7 (addF 1) a.d (map7 (addF 1) b.d c.d) := map7_assoc ra rb rc
            rw [alikeB_iff.2 ⟨e2, e1⟩]; rfl
          · simp
        · simp
      · rw [if_neg h2] at z2
        rw [z2]; rfl
    simp only [zz, Bool.true_and] at hassoc ⊢
    rw [hassoc, hback]; rfl
  · rw [if_neg h] at z1
    rw [hcomm, z1]
    exact ⟨rfl, rfl⟩
theorem grp_pow {a b : Un} (ha : UOK 5 a) {n m : Int} (hn : -3 ≤ n ∧ n ≤ 3) (hm : -3 ≤ m ∧ m ≤ 3) :
    (((powF a (n, 1)).2 != 0 || (powF a (m, 1)).2 != 0 || (powF a (n + m, 1)).2 != 0 || (mulF (powF a (n, 1)).1 (powF a (m, 1)).1).2 != 0 || alikeB (mulF (powF a (n, 1)).1 (powF a (m, 1)).1).1 (powF a (n + m, 1)).1) && ((a.s == 0) == (a.s == 0 && (mulF a b).2 != 0 && (powF a (n, 1)).2 != 0))) = true := by
  obtain ⟨f1, m1, u1, z1⟩ := pow_cases ha (n := n) (by omega) (by decide)
  obtain ⟨f2, m2, u2, z2⟩ := pow_cases ha (n := m) (by omega) (by decide)
  obtain ⟨f3, m3, u3, z3⟩ := pow_cases ha (n := n + m) (by omega) (by decide)
  have ra := red7_fits (valid_iff.1 ha.valid).1
  have q1 : 0 < qV f1 := by rw [u1]; exact zpow_pos ha.pos n
  have q2 : 0 < qV f2 := by rw [u2]; exact zpow_pos ha.pos m
  by_cases hs : a.s = 0
  · have e1 : powF a (n, 1) = (noU, 70) := by rw [z1, if_neg (fun h => h.1 hs)]
    have e2 : (mulF a b).2 != 0 := by
      unfold mulF
      rw [bfalse (b := factorF a) (fun e => (factor_iff.1 e).2 hs)]; rfl
    rw [e1, e2, hs]; rfl
  · rw [beq_eq_false_iff_ne.2 hs]
    by_cases h1 : fits7 (scl7 (n, 1) a.d) = true
    · by_cases h2 : fits7 (scl7 (m, 1) a.d) = true
      · by_cases h3 : fits7 (scl7 (n + m, 1) a.d) = true
        · rw [z1, z2, z3, if_pos ⟨hs, h1⟩, if_pos ⟨hs, h2⟩, if_pos ⟨hs, h3⟩]
          have p1 := plain_UOK h1 m1 q1 (pow_k ha n) (by decide)
          have p2 := plain_UOK h2 m2 q2 (pow_k ha m) (by decide)
          obtain ⟨f4, _, m4, u4, z4⟩ := mul_cases p1 p2 (by decide)
          rw [z4]
          split
          · have e1 : f4 = f3 := few_eq m4 m3 (by rw [u4]; show qV f1 * qV f2 = qV f3; rw [u1, u2, u3, Rat.zpow_add ha.ne])
            have e2 : map7 (addF 1) (scl7 (n, 1) a.d) (scl7 (m, 1) a.d) = scl7 (n + m, 1) a.d := scl7_add n m ra
            rw [alikeB_iff.2 ⟨e2, e1⟩]; simp
          · simp
        · rw [z3, if_neg (fun h => h3 h.2)]; simp
      · rw [z2, if_neg (fun h => h2 h.2)]; simp
    · rw [z1, if_neg (fun h => h1 h.2)]; simp
theorem group_plain {a b c : Un} {n m : Int} (ha : UOK 5 a) (hb : UOK 5 b) (hc : UOK 5 c) (hn : uInt n = true) (hm : uInt m = true) : grpT a b c n m (fun r => r = cB.enc true) := by
  have bn := pickF_bds n (n := 7) (by decide)
  have bm := pickF_bds m (n := 7) (by decide)
  obtain ⟨g1, g2⟩ := grp_mul ha hb hc
  unfold grpT grpT1
  refine suP_mk ha.sz hb.sz (suP_mk hb.sz ha.sz (suP_mk hb.sz hc.sz (suP_mk (mulF_sz _ _) hc.sz (suP_mk ha.sz (mulF_sz _ _) (suP_mk (mulF_sz _ _) hb.sz (need_t ?_ ?_))))))
  · rw [mulF_sz]; rfl
  rw [g1, g2]
  refine pkT_mk hn (by decide) (need_in (by omega) (pkT_mk hm (by decide) (need_in (by omega) (need_t ha.sz (need_t ha.sz (need_in (by omega) (need_t ha.sz ?_)))))))
  refine suP_mk (powF_sz ha.sz _) (powF_sz ha.sz _) ?_
  rw [grp_pow ha (by omega) (by omega)]
theorem one_powQ (k : Nat) : (1 : Rat) ^ k = 1 := by
  induction k with
  | zero => exact Rat.pow_zero _
  | succ k ih => rw [Rat.pow_succ, ih, Rat.mul_one]
theorem root_plain {a : Un} {n : Int} (ha : UOK 5 a) (hn : 2 ≤ n ∧ n ≤ 5) : rootT a n (powF a (1, n)) (fun r => r = cB.enc true) := by
  have fn : fitsF (1, n) = true := by
    have : n = 2 ∨ n = 3 ∨ n = 4 ∨ n = 5 := by omega
    rcases this with rfl | rfl | rfl | rfl <;> decide
  have n1 : (n != 1) = true := by rw [bne_iff_ne]; omega
  have n1' : (n == 1) = false := beq_eq_false_iff_ne.2 (by omega)
  have sr := powF_sz ha.sz (1, n)
  unfold rootT
  rw [branch_iff]
  refine ⟨fun h => ?_, fun h => ?_⟩
  · have e : powF a (1, n) = (noU, 70) := by
      unfold powF
      have : (!factorF a || !fitsF (1, n) || ((1, n).2 != 1 && !eqR a.f rI)) = true := by
        simp only [Bool.or_eq_true, Bool.not_eq_true', beq_iff_eq] at h
        rcases h with h | h
        · rw [bfalse (b := factorF a) (fun e => (factor_iff.1 e).2 h)]; rfl
        · simp only [h, n1]; simp
      rw [this]; rfl
    rw [e, eqU_self]
    exact rfl
  · simp only [Bool.or_eq_false_iff, beq_eq_false_iff_ne, Bool.not_eq_false'] at h
    refine need_t sr (need_t (by rw [sr]; exact impB_iff.2 (fun _ => rfl)) ?_)
    have hf : a.f = rI := eqR_iff.1 h.2
    have ra := red7_fits (valid_iff.1 ha.valid).1
    have e : powF a (1, n) = if fits7 (scl7 (1, n) a.d) = true then (plainF (scl7 (1, n) a.d) rI 0, 0) else (noU, 70) := by
      unfold powF
      rw [fn, factor_iff.2 ⟨ha.valid, h.1⟩, (upto7_snd _).1]
      simp only [h.2, n1', cond_false]
      have k0 : eq2 (1, n) (1, 1) = false := by unfold eq2; simp [n1']
      rw [k0]
      by_cases h2 : fits7 (scl7 (1, n) a.d) = true
      · rw [if_pos h2, (upto7_snd _).2 h2, h2]; simp [invF]
      · rw [if_neg h2, bfalse h2]; simp
    rw [e]
    by_cases h2 : fits7 (scl7 (1, n) a.d) = true
    · rw [if_pos h2]
      have hr := plain_UOK (i := 1) (k := 0) h2 few_rI (by rw [qV_rI]; decide) (by decide) (by decide)
      obtain ⟨f2, m2, u2, z2⟩ := pow_cases hr (n := n) (by omega) (by decide)
      have e2 : scl7 (n, 1) (scl7 (1, n) a.d) = a.d := scl7_back (by omega) ra
      have e3 : f2 = rI := few_eq m2 few_rI (by
        rw [u2]
        show qV rI ^ n = qV rI
        rw [qV_rI]
        have : n = (n.natAbs : Int) := by omega
        rw [this, Rat.zpow_natCast]
        exact one_powQ _)
      have z2 : powF (plainF (scl7 (1, n) a.d) rI 0) (n, 1) = (plainF a.d rI (bif eq2 (n, 1) (1, 1) then (plainF (scl7 (1, n) a.d) rI 0).k else 0), 0) := by
        rw [z2, if_pos ⟨plain_ne _ _ _, by show fits7 (scl7 (n, 1) (scl7 (1, n) a.d)) = true; rw [e2]; exact (valid_iff.1 ha.valid).1⟩]
        show (plainF (scl7 (n, 1) (scl7 (1, n) a.d)) f2 _, (0 : Int)) = _
        rw [e2, e3]
      unfold rootG
      simp only [z2]
      have al : ∀ k, alikeB (plainF a.d rI k) a = true := fun k => alikeB_iff.2 ⟨rfl, hf.symm⟩
      rw [al, hr.valid]
      exact rfl
    · rw [if_neg h2]
      exact rfl
theorem unitGroup_any (x0 x1 x2 x3 y0 y1 y2 y3 z0 z1 z2 z3 n m : Int) (hx0 : B64 x0) (hx1 : B64 x1) (hx2 : B64 x2) (hx3 : B64 x3) (hy0 : B64 y0) (hy1 : B64 y1) (hy2 : B64 y2) (hy3 : B64 y3) (hz0 : B64 z0) (hz1 : B64 z1) (hz2 : B64 z2) (hz3 : B64 z3) (hn : B64 n) (hm : B64 m) (W : World) (hg : GlobU W) :
    Ans 5 #[.agg #[.int .i64 x0, .int .i64 x1, .int .i64 x2, .int .i64 x3], .agg #[.int .i64 y0, .int .i64 y1, .int .i64 y2, .int .i64 y3], .agg #[.int .i64 z0, .int .i64 z1, .int .i64 z2, .int .i64 z3], .int .i64 n, .int .i64 m] W :=
  ans_of (args := [c44.enc (x0, x1, x2, x3), c44.enc (y0, y1, y2, y3), c44.enc (z0, z1, z2, z3), cI.enc n, cI.enc m]) (bok5.yieldsL (ann := noA) (n := 3) hg ids5 (cB.ids _) (by
    rw [group_vc]
    exact need_t (u4_of hx0 hx1 hx2 hx3) (need_t (u4_of hy0 hy1 hy2 hy3) (need_t (u4_of hz0 hz1 hz2 hz3) (group_plain (make_ok _) (make_ok _) (make_ok _) (uInt_iff.2 hn) (uInt_iff.2 hm)))))) rfl
theorem unitRoots_any (x0 x1 x2 x3 n : Int) (hx0 : B64 x0) (hx1 : B64 x1) (hx2 : B64 x2) (hx3 : B64 x3) (hn : B64 n) (W : World) (hg : GlobU W) :
    Ans 6 #[.agg #[.int .i64 x0, .int .i64 x1, .int .i64 x2, .int .i64 x3], .int .i64 n] W :=
  ans_of (args := [c44.enc (x0, x1, x2, x3), cI.enc n]) (bok5.yieldsL (ann := noA) (n := 3) hg ids2 (cB.ids _) (by
    rw [roots_vc]
    have b := pickF_bds n (n := 4) (by decide)
    exact need_t (u4_of hx0 hx1 hx2 hx3) (pkT_mk (uInt_iff.2 hn) (by decide) (need_in (by omega) (need_t (make_ok _).sz (root_plain (make_ok _) (by omega))))))) rfl
end Go.Proofs.YtnchadlhnkbpgaaGreatDoor
namespace Go.Proofs.YtnchadlhnkbpgaaGreatDoor
open Go Go.RowKit Go.Sy Yk
theorem iter_fail {r : RS} {k : Nat} (h : (iterF r (k + 1)).1 = false) : (iterF r k).1 = false ∧ (rMul (iterF r k).2 r).2 = 0 ∧ (iterF r (k + 1)).2 = (rMul (iterF r k).2 r).1 := by
  unfold iterF stepF at h
  cases e : (iterF r k).1 with
  | true => rw [e] at h; simp only [Bool.not_true, cond_false] at h; rw [e] at h; cases h
  | false =>
    rw [e] at h
    simp only [Bool.not_false, cond_true, Bool.false_or, bne_eq_false_iff_eq] at h
    refine ⟨rfl, h, ?_⟩
    conv => lhs; unfold iterF stepF
    rw [e]; rfl
theorem iter_all {r : RS} : ∀ {N k : Nat}, (iterF r N).1 = false → k ≤ N → (iterF r k).1 = false
  | 0, k, h, hk => by
    have : k = 0 := by omega
    subst this; exact h
  | N + 1, k, h, hk => by
    by_cases e : k = N + 1
    · subst e; exact h
    · exact iter_all (iter_fail h).1 (by omega)
def pwI (r : RS) (N : Int) (z : WX) : Prop := 0 ≤ z.1 ∧ z.1 ≤ N ∧ z.2 = (iterF r z.1.toNat).2
theorem pwM_self (n p : Int) (v : RS) : pwM n p v (p, v) := ⟨⟨rfl, rfl, rfl, rfl, rfl, trivial⟩, trivial, ⟨rfl, trivial⟩, trivial⟩
theorem power7_plain {r : RS} {n : Int} {K : SV → Prop} (h : powPre r n = true) (hK : K ((cP cR cB).enc (powR r n))) : pwT (pwI r (maxI n)) (maxI n) r n K := by
  unfold powPre at h
  simp only [Bool.and_eq_true, within_iff, Bool.not_eq_true'] at h
  obtain ⟨hr, hn, hf⟩ := h
  have hm : 0 ≤ maxI n ∧ maxI n ≤ 3 ∧ (maxI n).toNat = n.natAbs := by
    unfold maxI
    split <;> omega
  refine ⟨(0, rI), ⟨Int.le_refl _, hm.1, rfl⟩, pwM_self _ _ _, ?_⟩
  rintro ⟨k, v⟩ ⟨h0, h1, h2⟩
  simp only at h0 h1 h2 ⊢
  have hv : uzR v = true := by rw [h2]; exact iterF_uz _ _
  refine need_in (by omega) ?_
  rw [branch_iff]
  refine ⟨fun c => ?_, fun c => ?_⟩
  · have hk : k < maxI n := of_decide_eq_true c
    have e : (k + 1).toNat = k.toNat + 1 := by omega
    have hs := iter_fail (r := r) (k := k.toNat) (iter_all hf (by omega))
    rw [← h2] at hs
    refine rrP_mk hv hr ?_
    rw [hs.2.1]
    refine need_in (by omega) ⟨(k + 1, (rMul v r).1), ⟨by simp only; omega, by simp only; omega, ?_⟩, by simp only; omega, pwM_self _ _ _⟩
    simp only
    rw [e, hs.2.2]
  · have hk : ¬ k < maxI n := of_decide_eq_false c
    have ek : k.toNat = n.natAbs := by omega
    rw [ek] at h2
    unfold powR at hK
    rw [← h2] at hK
    rw [branch_iff]
    refine ⟨fun c2 => ?_, fun c2 => ?_⟩
    · rw [c2] at hK; exact hK
    · rw [c2] at hK
      exact rrP_mk (by decide) hv hK
def b6 : List (FuncId × Ctr) := (49, k2 cR cI (cP cR cB) powPre powR) :: b5
theorem bok6 : GOk b6 := bok5.cons (fun W hW => k2_ok fun r n h => bok5.yieldsL (ann := annPw (pwI r (maxI n)) (maxI n)) (n := 3) hW ids2 ((cP cR cB).ids _) (by rw [power7_vc]; exact power7_plain (K := fun s => s = _) h rfl)) Tryz.call49
def pwP (r : RS) (n : Int) (Q : Prop) : Prop := needB (powPre r n) Q
def powsT (a c : Un) (n : Int) (v : RS) (K : SV → Prop) : Prop :=
  needB (szU1 a) (needB (szU1 c) (branch ((powF a (n, 1)).2 != 0 || (powF c (n, 1)).2 != 0) (K (cB.enc ((powF a (n, 1)).2 == (powF c (n, 1)).2)))
    (cvP v a c (pwP (convF v a c).1 n (pwP v n (cvP (powR v n).1 (powF a (n, 1)).1 (powF c (n, 1)).1
      (K (cB.enc ((convF v a c).2 == 0 && (powR (convF v a c).1 n).2 && (powR v n).2 && (convF (powR v n).1 (powF a (n, 1)).1 (powF c (n, 1)).1).2 == 0 && eqR (powR (convF v a c).1 n).1 (convF (powR v n).1 (powF a (n, 1)).1 (powF c (n, 1)).1).1)))))))))
theorem powers_vc (x : I4) (s v : Int × Int) (n : Int) (K : SV → Prop) : runL b6 noA 3 11 [c44.enc x, c22.enc s, c22.enc v, cI.enc n] K =
    needB (u4 x) (pk2 s (pkT n 7 (needB (inR .i64 (pickF n 7 - 3)) (pk2 v (branch (eqR (smallF v) rZ) (powsT (makeU x) (otherF (makeU x) s) (pickF n 7 - 3) rI K) (powsT (makeU x) (otherF (makeU x) s) (pickF n 7 - 3) (smallF v) K)))))) := by kernel_rfl
theorem powR_ok {r : RS} {i : Nat} (hr : FewR i r) (h0 : qV r ≠ 0) {n : Int} (hn : -3 ≤ n ∧ n ≤ 3) (hi : i * 6 + 3 ≤ 199) : ∃ s, powPre r n = true ∧ powR r n = (s, true) ∧ FewR (i * 6 + 2) s ∧ qV s = qV r ^ n := by
  obtain ⟨s, e, fs, v⟩ := pow_fac hr h0 (n := n) (by omega) hi
  have hm : i * n.natAbs ≤ i * 6 := Nat.mul_le_mul_left _ (by omega)
  obtain ⟨t, et, _, _⟩ := iter_ok hr n.natAbs (by omega)
  refine ⟨s, ?_, ?_, fs, v⟩
  · unfold powPre
    rw [few_uz hr, within_iff.2 hn, et]; rfl
  · unfold powR
    unfold invF at e
    rw [et] at e ⊢
    by_cases h : n < 0
    · rw [decide_eq_true h] at e
      rw [decide_eq_false (by omega : ¬ 0 ≤ n)]
      simp only [Bool.not_false, Bool.and_self, cond_true, Prod.mk.injEq, bne_eq_false_iff_eq] at e
      simp only [cond_false, e.1, e.2]; rfl
    · rw [decide_eq_false h] at e
      rw [decide_eq_true (by omega : 0 ≤ n)]
      simp only [Bool.false_and, cond_false, Prod.mk.injEq] at e
      simp only [cond_true, e.2]
theorem mul_zpowQ {x y : Rat} (hx : x ≠ 0) (hy : y ≠ 0) : ∀ n : Int, (x * y) ^ n = x ^ n * y ^ n := by
  have nat : ∀ k : Nat, (x * y) ^ k = x ^ k * y ^ k := fun k => by
    induction k with
    | zero => simp [Rat.pow_zero]
    | succ k ih => rw [Rat.pow_succ, Rat.pow_succ, Rat.pow_succ, ih]; grind
  intro n
  rcases Int.le_total 0 n with hn | hn
  · have : n = (n.natAbs : Int) := by omega
    rw [this, Rat.zpow_natCast, Rat.zpow_natCast, Rat.zpow_natCast]; exact nat _
  · have : n = -(n.natAbs : Int) := by omega
    rw [this, Rat.zpow_neg, Rat.zpow_neg, Rat.zpow_neg, Rat.zpow_natCast, Rat.zpow_natCast, Rat.zpow_natCast, nat, Rat.inv_mul_rev, Rat.mul_comm]
theorem inv_ne {x : Rat} (h : x ≠ 0) : x⁻¹ ≠ 0 := fun e => by
  have := Rat.mul_inv_cancel x h
  rw [e, Rat.mul_zero] at this
  exact absurd this (by decide)
theorem inv_zpowQ {x : Rat} (h : x ≠ 0) (n : Int) : (x⁻¹) ^ n * x ^ n = 1 := by
  rw [← mul_zpowQ (inv_ne h) h, Rat.inv_mul_cancel x h]
  rcases Int.le_total 0 n with hn | hn
  · have : n = (n.natAbs : Int) := by omega
    rw [this, Rat.zpow_natCast, one_powQ]
  · have : n = -(n.natAbs : Int) := by omega
    rw [this, Rat.zpow_neg, Rat.zpow_natCast, one_powQ]
    have := Rat.mul_inv_cancel 1 (by decide)
    rwa [Rat.one_mul] at this
theorem pows_plain {a c : Un} {n : Int} {v : RS} (ha : UOK 5 a) (hc : UOK 5 c) (ac : a.d = c.d ∧ a.k = c.k ∧ a.s = c.s) (hn : -3 ≤ n ∧ n ≤ 3) (hv : FewR 5 v) (h0 : qV v ≠ 0) : powsT a c n v (fun r => r = cB.enc true) := by
  obtain ⟨f1, m1, u1, z1⟩ := pow_cases ha (n := n) (by omega) (by decide)
  obtain ⟨f2, m2, u2, z2⟩ := pow_cases hc (n := n) (by omega) (by decide)
  rw [← ac.1, ← ac.2.1, ← ac.2.2] at z2
  have na := ha.ne
  have nc := hc.ne
  have q1 : 0 < qV f1 := by rw [u1]; exact zpow_pos ha.pos n
  have q2 : 0 < qV f2 := by rw [u2]; exact zpow_pos hc.pos n
  refine need_t ha.sz (need_t hc.sz ?_)
  by_cases h : a.s ≠ 0 ∧ fits7 (scl7 (n, 1) a.d) = true
  · rw [if_pos h] at z1 z2
    have oa := off_zero ha.valid h.1
    have oc := off_zero hc.valid (by rw [← ac.2.2]; exact h.1)
    obtain ⟨one, e1, g1, v1⟩ := conv_ok hv ha hc ac.1 ac.2.1 ac.2.2 (by decide)
    rw [oa, oc] at v1
    have v1' : qV one = qV v * qV a.f * (qV c.f)⁻¹ := by rw [v1, Rat.div_def]; grind
    have hx : qV v * qV a.f ≠ 0 := fun e => by rcases Rat.mul_eq_zero.1 e with e | e; exact h0 e; exact na e
    have one0 : qV one ≠ 0 := by
      rw [v1']
      exact fun e => by rcases Rat.mul_eq_zero.1 e with e | e; exact hx e; exact inv_ne nc e
    obtain ⟨r1, p1, e2, g2, v2⟩ := powR_ok g1 one0 hn (by decide)
    obtain ⟨r2, p2, e3, g3, v3⟩ := powR_ok hv h0 hn (by decide)
    obtain ⟨w, e4, g4, v4⟩ := conv_plain_ok g3 m1 m2 h.2 q1 q2 (pow_k ha n) (by decide) (by decide)
    have ew : r1 = w := few_eq g2 g4 (by
      rw [v2, v4, v1', v3, u1, u2, mul_zpowQ hx (inv_ne nc), mul_zpowQ h0 na, Rat.div_def]
      have hz := inv_zpowQ nc n
      have hp := qpos_ne (zpow_pos hc.pos n)
      have : (qV c.f)⁻¹ ^ n = (qV c.f ^ n)⁻¹ := by
        have h2 := Rat.mul_inv_cancel _ hp
        calc (qV c.f)⁻¹ ^ n = (qV c.f)⁻¹ ^ n * (qV c.f ^ n * (qV c.f ^ n)⁻¹) := by rw [h2, Rat.mul_one]
          _ = (qV c.f ^ n)⁻¹ := by rw [← Rat.mul_assoc, hz, Rat.one_mul]
      rw [this])
    have s1 := powF_sz ha.sz (n, 1)
    have s2 := powF_sz hc.sz (n, 1)
    rw [z1] at s1
    rw [z2] at s2
    rw [z1, z2]
    have so := conv_uz v a c
    rw [e1] at so ⊢
    have e2' : powR one n = (r1, true) := e2
    simp only [nz, Bool.or_self]
    refine cvP_mk (few_uz hv) ha.sz hc.sz (need_t p1 (need_t p2 ?_))
    simp only [e2, e3, e4, ew, eqR_self, zz, Bool.and_self]
    exact cvP_mk (few_uz g3) s1 s2 trivial
  · rw [if_neg h] at z1 z2
    rw [z1, z2]
    exact rfl
theorem unitPowers_any (x0 x1 x2 x3 s0 s1 v0 v1 n : Int) (hx0 : B64 x0) (hx1 : B64 x1) (hx2 : B64 x2) (hx3 : B64 x3) (hs0 : B64 s0) (hs1 : B64 s1) (hv0 : B64 v0) (hv1 : B64 v1) (hn : B64 n) (W : World) (hg : GlobU W) :
    Ans 11 #[.agg #[.int .i64 x0, .int .i64 x1, .int .i64 x2, .int .i64 x3], .agg #[.int .i64 s0, .int .i64 s1], .agg #[.int .i64 v0, .int .i64 v1], .int .i64 n] W :=
  ans_of (args := [c44.enc (x0, x1, x2, x3), c22.enc (s0, s1), c22.enc (v0, v1), cI.enc n]) (bok6.yieldsL (ann := noA) (n := 3) hg ids4 (cB.ids _) (by
    rw [powers_vc]
    have b := pickF_bds n (n := 7) (by decide)
    have o := other_same (makeU (x0, x1, x2, x3)) (s0, s1)
    refine need_t (u4_of hx0 hx1 hx2 hx3) (pk2_mk (uInt_iff.2 hs0) (uInt_iff.2 hs1) (pkT_mk (uInt_iff.2 hn) (by decide) (need_in (by omega) (pk2_mk (uInt_iff.2 hv0) (uInt_iff.2 hv1) ?_))))
    rw [branch_iff]
    refine ⟨fun _ => pows_plain (make_ok _) (other_ok (make_ok _) _) ⟨o.1.symm, o.2.1.symm, o.2.2.symm⟩ (by omega) (few_rI.mono (by decide)) (by rw [qV_rI]; decide), fun h => pows_plain (make_ok _) (other_ok (make_ok _) _) ⟨o.1.symm, o.2.1.symm, o.2.2.symm⟩ (by omega) (few_small _) (fun e => ?_)⟩
    have : smallF (v0, v1) = rZ := few_eq (few_small _) few_rZ (by rw [e, qV_rZ])
    rw [this, eqR_self] at h
    cases h)) rfl
end Go.Proofs.YtnchadlhnkbpgaaGreatDoor
namespace Go.Proofs.YtnchadlhnkbpgaaGreatDoor
open Go.ChangeShapes Go.WideShapes Go.ChangeAt Go.RowKit Yk
set_option maxRecDepth 100000 in
theorem unitPowers_lifted (os : Os) (started : os.Started) (H : Type) (enc : TypeId × Value → H) :
    ReturnsInHanded {} Tryz.checked os 11 .any (fun w args => (Rows.unitPowersSpec.pre enc Tryz.prog Tryz.f11 [] false w args ∧ laidMetH Tryz.prog theLaid w) ∧ sizedMet enc Tryz.prog Tryz.f11 (OpenSpec.ofChange Rows.unitPowersSpec) false w args)
      (Rows.unitPowersSpec.post enc Tryz.prog Tryz.f11 false true false false) := by
  refine handed_and_shaped (C := Tryz.checked) (X := fun w _ => laidMetH Tryz.prog theLaid w) (fun _ _ _ hh h => h.of_heap hh) own started (by kernel_rfl) Tryz.func11
    (ChangeSpec.witness_shaped (enc := enc) (C := Tryz.checked) (os := os) (X := fun w _ => laidMetH Tryz.prog theLaid w) false (World.laidAll Tryz.prog os theLaid) #[.agg #[.int .i64 0, .int .i64 0, .int .i64 0, .int .i64 0], .agg #[.int .i64 0, .int .i64 0], .agg #[.int .i64 0, .int .i64 0], .int .i64 0] 8 (World.laidAll_os _ _ _)
      (World.shaped_of_ZipB (by kernel_rfl) (by kernel_rfl)) (by kernel_rfl) (by kernel_rfl) (by kernel_rfl)
      (by rw [MakeChecks.laidMetH_plain _ _ _ (by kernel_rfl)]; exact laidMet_laidAll _ (by kernel_rfl) (by kernel_rfl))) ?_
  intro W base args ds gs before hval0 hW hL hsh
  have hval : ∀ (j : Nat) t v, Tryz.f11.params[j]? = some t → args[j]? = some v → Value.okWide Tryz.prog W .any base t v := hval0
  have hW' := hW
  obtain ⟨p, q, hA0, hV, rfl, _, _⟩ := hW
  have hA : DataW.TrodAll enc Tryz.prog W 0 (fun _ => true) true Tryz.f11.params.toList args.toList ds p := hA0
  have hlt : ∀ x ∈ p, x.block < W.heap.size := fun x hx => by simpa using hW'.lt x (by simp [hx])
  have hrd : ∀ t ∈ Tryz.f11.params.toList, Tryz.prog.readableRec t = true ∧ t < Tryz.prog.types.size := by
    rw [Tryz.params11]
    have hall : ([29, 30, 30, 3].all fun u => Tryz.prog.readableRec u && decide (u < Tryz.prog.types.size)) = true := by kernel_rfl
    intro t ht
    have := List.all_eq_true.1 hall t (by simpa using ht)
    simpa using this
  have hstay := fun W' (hb : Below W.heap.size W W') => all_stays (by kernel_rfl) hb _ _ _ _ hrd hlt hA0
  rw [Tryz.params11] at hA hval
  obtain ⟨v0, vs0, d0, ds0, p0, q0, hargs, rfl, rfl, h0, r0⟩ := trodAll_cons hA
  obtain ⟨v1, vs1, d1, ds1, p1, q1, rfl, rfl, rfl, h1, r1⟩ := trodAll_cons r0
  obtain ⟨v2, vs2, d2, ds2, p2, q2, rfl, rfl, rfl, h2, r2⟩ := trodAll_cons r1
  obtain ⟨v3, vs3, d3, ds3, p3, q3, rfl, rfl, rfl, h3, r3⟩ := trodAll_cons r2
  obtain ⟨rfl, rfl, rfl⟩ := trodAll_nil r3
  obtain rfl : args = #[v0, v1, v2, v3] := by cases args; simp_all
  obtain ⟨rfl, rfl⟩ := trodVars_none hV
  obtain ⟨x00, x01, x02, x03, rfl, b00, b01, b02, b03⟩ := open_ints4 Tryz.underlying29 Tryz.underlying3 (by kernel_rfl) (by kernel_rfl) (hval 0 29 v0 rfl rfl) h0
  obtain ⟨x10, x11, rfl, b10, b11⟩ := open_ints2 Tryz.underlying30 Tryz.underlying3 (by kernel_rfl) (by kernel_rfl) (hval 1 30 v1 rfl rfl) h1
  obtain ⟨x20, x21, rfl, b20, b21⟩ := open_ints2 Tryz.underlying30 Tryz.underlying3 (by kernel_rfl) (by kernel_rfl) (hval 2 30 v2 rfl rfl) h2
  obtain ⟨x3, rfl, _, _, w3⟩ := open_int Tryz.underlying3 (hval 3 3 v3 rfl rfl) h3
  have b3 := i64_bounds w3
  refine Calls.mono (unitPowers_any x00 x01 x02 x03 x10 x11 x20 x21 x3 b00 b01 b02 b03 b10 b11 b20 b21 b3 W (globU_of hsh hL)) fun e W' ⟨he, hb⟩ => ?_
  subst he
  exact ⟨_, rfl, _, _, _, [], _, [], hW', trodAll_mk1 (shut_bool Tryz.underlying4 _), hstay W' hb, rfl, hb.frame _, fun h => by cases h⟩
theorem unitPowers_holds : Rows.UnitPowersSaid :=
  OpenClaim.holds_of_wide 11 Tryz.f11 rfl rfl rfl rfl rfl rfl rfl ⟨rfl, rfl, rfl, rfl, rfl⟩ rfl rfl rfl rfl rfl (by kernel_rfl) Tryz.func11 (by kernel_rfl)
    (of_decide_eq_true (by kernel_rfl)) (by unfold Func.isWrapper; first | (rw [if_pos (by decide +kernel)]; kernel_rfl) | (rw [if_neg (by decide +kernel)]; exact ⟨rfl, rfl⟩))
    (fun os started H enc _ => unitPowers_lifted os started H enc)
theorem unitPowers_card : Rows.UnitPowersCardSaid :=
  Claim7.holds_tied_plain_at .later [] [.data, .data, .data, .data, .sentinel, .sentinel, .pinned] true (true, "611667a7a624dd15a526d69ec943c334a2e9e6049a68dd96cebb84b936859058") true unitPowers_holds (fun _ h => by cases h) (by kernel_rfl) (fun _ h => by cases h) unitPowers_row_tie rfl ⟨rfl, rfl⟩ (by kernel_rfl) rfl
    (fun f fn hf hfn => by
      obtain rfl : f = 11 := Option.some.inj ((show Tryz.prog.funcNamed "yardstick/yardsticklaw07.UnitPowers" = some 11 by kernel_rfl).symm.trans hf) |>.symm
      obtain rfl : fn = Tryz.f11 := (Option.some.inj (Tryz.func11.symm.trans hfn)).symm
      exact ⟨by kernel_rfl, fun j t ht => by
        rw [Tryz.params11] at ht
        have hm : t ∈ [29, 30, 30, 3] := by simpa using Array.mem_of_getElem? ht
        have hall : ([29, 30, 30, 3].all fun u => !Tryz.prog.wantsStandIn u) = true := by kernel_rfl
        exact (show Tryz.prog.wantsStandIn t = false by simpa using List.all_eq_true.1 hall t hm)⟩)
    (by kernel_rfl)
#print axioms unitPowers_card
end Go.Proofs.YtnchadlhnkbpgaaGreatDoor
