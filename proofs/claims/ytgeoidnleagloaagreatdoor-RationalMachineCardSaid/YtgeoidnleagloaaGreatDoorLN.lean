/- The law RationalMachine: what its run comes to, and that it holds. -/
import Derived.Test.YtgeoidnleagloaaGreatDoorLP
import Derived.Test.YtgeoidnleagloaaGreatDoorLT
set_option linter.unusedVariables false
set_option linter.unusedSimpArgs false
namespace Go.Proofs.YtgeoidnleagloaaGreatDoor
open Go Go.RowKit Go.Sy Yk

section
variable {W0 : World}
/-- All contracts, with pick and ToInt. -/
def gamQ : List (FuncId × Ctr) := (43, cToInt) :: gamP
theorem hypQ (hg : Glob W0) : Hyp Tryz.prog W0 (oneOf oks) (lookG gamQ) (lookM gamM) :=
  hyp_of (cons_ok ctrToInt Tryz.call43 (cons_ok (ctrPick hg) Tryz.call18 (cons_ok (ctrSane hg) Tryz.call11 (cons_ok (ctrMinus hg) Tryz.call45 (gam1_ok hg))))) gamM_ok oks_ok mixed
end
abbrev runQ (ann : FuncId → Nat → Option Ann) (n : Nat) (f : FuncId) (args : List SV) (K : SV → Prop) : Prop := inlN Tryz.prog (oneOf oks) (lookG gamQ) (lookM gamM) ann n f args (fun _ => none) 0 [] fun r _ _ _ => K r
theorem law_runQ {w : World} (hg : Glob w) {ann : FuncId → Nat → Option Ann} {n : Nat} {f : FuncId} {args : List SV} (ha : SV.idss args = []) (h : runQ ann n f args Yes) :
    Calls Tryz.prog f (SV.concs noLoc args).toArray w fun e w' => e = .returned (.bool true) ∧ Below w.heap.size w w' := by
  refine (run_pure (hypQ hg) ann n f args ha (fun r => r = .val (.bool true)) h).mono ?_
  rintro e w' ⟨r, rfl, _, rfl, hb⟩
  exact ⟨rfl, hb⟩
/-- What the law's run comes to, in the four numbers, the two fractions and their four results. -/
def MV (n m d c N M D C : Int) (A B S U P V : RS × Int) (K : SV → Prop) : Prop :=
needB (i64 n && true) 
 (needB (inR IntKind.i64 N) 
 (needB (i64 m && true) 
 (needB (inR IntKind.i64 M) 
 (needB (i64 d && true) 
 (needB (inR IntKind.i64 D) 
 (needB (i64 c && true) 
 (needB (inR IntKind.i64 C) 
 (needB (i64 N && i64 D) 
 (needB (i64 M && i64 C) 
 (needB (sz A.fst.fst && sz A.fst.snd && sz B.fst.fst && sz B.fst.snd) 
 (needB (sz A.fst.fst && sz A.fst.snd && sz B.fst.fst && sz B.fst.snd) 
 (needB (sz A.fst.fst && sz A.fst.snd && sz B.fst.fst && sz B.fst.snd) 
 (needB (sz A.fst.fst && sz A.fst.snd && sz B.fst.fst && sz B.fst.snd) 
 (needB (inR IntKind.i64 (N * C)) 
 (needB (inR IntKind.i64 (M * D)) 
 (needB (inR IntKind.i64 (N * C + M * D)) 
 (needB (inR IntKind.i64 (D * C)) 
 (needB (inR IntKind.i64 (N * C)) 
 (needB (inR IntKind.i64 (M * D)) 
 (needB (inR IntKind.i64 (N * C - M * D)) 
 (needB (inR IntKind.i64 (D * C)) 
 (needB (inR IntKind.i64 (N * M)) 
 (needB (inR IntKind.i64 (D * C)) 
 (needB (inR IntKind.i64 (N * C)) 
 (needB (inR IntKind.i64 (D * M)) 
 (needB (vS S.fst.fst && decide ((nS S.fst.fst).natAbs < 1000000000000000)) 
 (needB (vS S.fst.snd && decide ((nS S.fst.snd).natAbs < 1000000000000000)) 
 (needB (impB (!(S.snd != 0 && true && true || decide (nS S.fst.snd < 1))) (inR IntKind.i64 (nS S.fst.fst * (D * C)))) 
 (needB (impB (!(S.snd != 0 && true && true || decide (nS S.fst.snd < 1))) (inR IntKind.i64 ((N * C + M * D) * nS S.fst.snd))) 
 (needB (impB (!(S.snd != 0 && true && true || decide (nS S.fst.snd < 1) || nS S.fst.fst * (D * C) != (N * C + M * D) * nS S.fst.snd)) (sz S.fst.fst && sz S.fst.snd)) 
 (branch (S.snd != 0 && true && true || decide (nS S.fst.snd < 1) || nS S.fst.fst * (D * C) != (N * C + M * D) * nS S.fst.snd || !rV S.fst) (K (SV.val (Value.bool false))) 
 (needB (vS U.fst.fst && decide ((nS U.fst.fst).natAbs < 1000000000000000)) 
 (needB (vS U.fst.snd && decide ((nS U.fst.snd).natAbs < 1000000000000000)) 
 (needB (impB (!(U.snd != 0 && true && true || decide (nS U.fst.snd < 1))) (inR IntKind.i64 (nS U.fst.fst * (D * C)))) 
 (needB (impB (!(U.snd != 0 && true && true || decide (nS U.fst.snd < 1))) (inR IntKind.i64 ((N * C - M * D) * nS U.fst.snd))) 
 (needB (impB (!(U.snd != 0 && true && true || decide (nS U.fst.snd < 1) || nS U.fst.fst * (D * C) != (N * C - M * D) * nS U.fst.snd)) (sz U.fst.fst && sz U.fst.snd)) 
 (branch (U.snd != 0 && true && true || decide (nS U.fst.snd < 1) || nS U.fst.fst * (D * C) != (N * C - M * D) * nS U.fst.snd || !rV U.fst) (K (SV.val (Value.bool false))) 
 (needB (vS P.fst.fst && decide ((nS P.fst.fst).natAbs < 1000000000000000)) 
 (needB (vS P.fst.snd && decide ((nS P.fst.snd).natAbs < 1000000000000000)) 
 (needB (impB (!(P.snd != 0 && true && true || decide (nS P.fst.snd < 1))) (inR IntKind.i64 (nS P.fst.fst * (D * C)))) 
 (needB (impB (!(P.snd != 0 && true && true || decide (nS P.fst.snd < 1))) (inR IntKind.i64 (N * M * nS P.fst.snd))) 
 (needB (impB (!(P.snd != 0 && true && true || decide (nS P.fst.snd < 1) || nS P.fst.fst * (D * C) != N * M * nS P.fst.snd)) (sz P.fst.fst && sz P.fst.snd)) 
 (branch (P.snd != 0 && true && true || decide (nS P.fst.snd < 1) || nS P.fst.fst * (D * C) != N * M * nS P.fst.snd || !rV P.fst) (K (SV.val (Value.bool false))) 
 (branch (true && M == 0) 
 (branch (V.snd != 40 || !(seq V.fst.fst { data := #[] } && (seq V.fst.snd { data := #[] } && true))) (K (SV.val (Value.bool false))) 
 (needB (inR IntKind.i64 (N * C)) 
 (needB (inR IntKind.i64 (M * D)) 
 (branch (decide (N * C < M * D)) 
 (needB (impB (true && A.snd == 0 && B.snd == 0) (sz A.fst.fst && sz A.fst.snd && sz B.fst.fst && sz B.fst.snd)) (K (SV.val (Value.bool (true && A.snd == 0 && B.snd == 0 && rCmp A.fst B.fst == -1))))) 
 (needB (inR IntKind.i64 (N * C)) 
 (needB (inR IntKind.i64 (M * D)) 
 (branch (decide (N * C > M * D)) 
 (needB (impB (true && A.snd == 0 && B.snd == 0) (sz A.fst.fst && sz A.fst.snd && sz B.fst.fst && sz B.fst.snd)) (K (SV.val (Value.bool (true && A.snd == 0 && B.snd == 0 && rCmp A.fst B.fst == 1))))) 
 (needB (impB (true && A.snd == 0 && B.snd == 0) (sz A.fst.fst && sz A.fst.snd && sz B.fst.fst && sz B.fst.snd)) (K (SV.val (Value.bool (true && A.snd == 0 && B.snd == 0 && rCmp A.fst B.fst == 0)))))))))))) 
 (needB (vS V.fst.fst && decide ((nS V.fst.fst).natAbs < 1000000000000000)) 
 (needB (vS V.fst.snd && decide ((nS V.fst.snd).natAbs < 1000000000000000)) 
 (needB (impB (!(V.snd != 0 && true && true || decide (nS V.fst.snd < 1))) (inR IntKind.i64 (nS V.fst.fst * (D * M)))) 
 (needB (impB (!(V.snd != 0 && true && true || decide (nS V.fst.snd < 1))) (inR IntKind.i64 (N * C * nS V.fst.snd))) 
 (needB (impB (!(V.snd != 0 && true && true || decide (nS V.fst.snd < 1) || nS V.fst.fst * (D * M) != N * C * nS V.fst.snd)) (sz V.fst.fst && sz V.fst.snd)) 
 (branch (V.snd != 0 && true && true || decide (nS V.fst.snd < 1) || nS V.fst.fst * (D * M) != N * C * nS V.fst.snd || !rV V.fst) (K (SV.val (Value.bool false))) 
 (needB (inR IntKind.i64 (N * C)) 
 (needB (inR IntKind.i64 (M * D)) 
 (branch (decide (N * C < M * D)) 
 (needB (impB (true && A.snd == 0 && B.snd == 0) (sz A.fst.fst && sz A.fst.snd && sz B.fst.fst && sz B.fst.snd)) (K (SV.val (Value.bool (true && A.snd == 0 && B.snd == 0 && rCmp A.fst B.fst == -1))))) 
 (needB (inR IntKind.i64 (N * C)) 
 (needB (inR IntKind.i64 (M * D)) 
 (branch (decide (N * C > M * D)) 
 (needB (impB (true && A.snd == 0 && B.snd == 0) (sz A.fst.fst && sz A.fst.snd && sz B.fst.fst && sz B.fst.snd)) (K (SV.val (Value.bool (true && A.snd == 0 && B.snd == 0 && rCmp A.fst B.fst == 1))))) 
 (needB (impB (true && A.snd == 0 && B.snd == 0) (sz A.fst.fst && sz A.fst.snd && sz B.fst.fst && sz B.fst.snd)) (K (SV.val (Value.bool (true && A.snd == 0 && B.snd == 0 && rCmp A.fst B.fst == 0)))))))))))))))))))))))))))))))))))))))))))))))))))))))))))))
set_option maxRecDepth 100000 in
theorem machine_vc (n d m c : Int) (K : SV → Prop) : runQ (fun _ _ => none) 4 7 [svI n, svI d, svI m, svI c] K =
    MV n m d c (pickI n 60001 - 30000) (pickI m 60001 - 30000) (1 + pickI d 30000) (1 + pickI c 30000)
      (rMk (pickI n 60001 - 30000) (1 + pickI d 30000)) (rMk (pickI m 60001 - 30000) (1 + pickI c 30000))
      (rAdd (rMk (pickI n 60001 - 30000) (1 + pickI d 30000)).1 (rMk (pickI m 60001 - 30000) (1 + pickI c 30000)).1)
      (rSub (rMk (pickI n 60001 - 30000) (1 + pickI d 30000)).1 (rMk (pickI m 60001 - 30000) (1 + pickI c 30000)).1)
      (rMul (rMk (pickI n 60001 - 30000) (1 + pickI d 30000)).1 (rMk (pickI m 60001 - 30000) (1 + pickI c 30000)).1)
      (rDiv (rMk (pickI n 60001 - 30000) (1 + pickI d 30000)).1 (rMk (pickI m 60001 - 30000) (1 + pickI c 30000)).1) K := by kernel_rfl

/-- What a result is to be: a fraction of the value u / v, of few digits. -/
structure MF (x : RS × Int) (u v : Int) : Prop where
  ok : x.2 = 0
  v1 : vS x.1.1 = true
  v2 : vS x.1.2 = true
  b1 : (nS x.1.1).natAbs ≤ u.natAbs
  pos : 1 ≤ nS x.1.2
  b2 : (nS x.1.2).natAbs ≤ v.natAbs
  val : nS x.1.1 * v = u * nS x.1.2
  rv : rV x.1 = true
theorem mf_of {x : RS × Int} {u v : Int} (g : Gives x (Rat.divInt u v)) (hv : v ≠ 0) : MF x u v := by
  have p := rV_parts g.valid
  have l := divInt_le u v hv
  have e1 : nS x.1.1 = (Rat.divInt u v).num := by rw [g.fst]; exact nS_ofI _
  have e2 : nS x.1.2 = (Rat.divInt u v).den := by rw [g.fst]; exact nS_ofI _
  refine ⟨g.snd, p.1, p.2.1, by rw [e1]; exact l.1, by have := p.2.2.1; omega, by rw [e2]; simpa using l.2, ?_, g.valid⟩
  have hd : nS x.1.2 ≠ 0 := by have := p.2.2.1; omega
  have : Rat.divInt (nS x.1.1) (nS x.1.2) = Rat.divInt u v := g.val
  rw [Rat.divInt_eq_divInt_iff hd hv] at this
  exact this
theorem inR_mul {x y : Int} (hx : x.natAbs ≤ 2000000000) (hy : y.natAbs ≤ 2000000000) : inR .i64 (x * y) = true := by
  have h : (x * y).natAbs ≤ 2000000000 * 2000000000 := by rw [Int.natAbs_mul]; exact Nat.mul_le_mul hx hy
  rw [inR_iff]; simp only [kLo, kHi]; omega
theorem bnd {x y : Int} (hx : x.natAbs ≤ 30000) (hy : y.natAbs ≤ 30000) : (x * y).natAbs ≤ 900000000 := by
  have h : (x * y).natAbs ≤ 30000 * 30000 := by rw [Int.natAbs_mul]; exact Nat.mul_le_mul hx hy
  omega
section
variable {N M D C : Int} (hN : N.natAbs ≤ 30000) (hM : M.natAbs ≤ 30000) (hD : D.natAbs ≤ 30000) (hC : C.natAbs ≤ 30000) (D0 : 0 < D) (C0 : 0 < C)
include hN hM hD hC D0 C0
omit hM hC C0 in
theorem m_few : Gives (rMk N D) (Rat.divInt N D) ∧ FewR 5 (rMk N D).1 := by
  have s1 : small N = true := small_lt (k := 5) (by omega) (by decide)
  have s2 : small D = true := small_lt (k := 5) (by omega) (by decide)
  have h : rMk N D = (rT (Rat.divInt N D), 0) := rMk_ok s1 s2 (by omega)
  refine ⟨⟨h, rV_mk s1 s2 (by omega)⟩, ?_⟩
  rw [h]
  exact Few.rT (Few.divInt (by omega) (by omega) (by omega)) (by decide)
theorem m_add : MF (rAdd (rMk N D).1 (rMk M C).1) (N * C + M * D) (D * C) := by
  obtain ⟨g1, f1⟩ := m_few hN hD D0
  obtain ⟨g2, f2⟩ := m_few hM hC C0
  have g := (rAdd_gives (FewR.add f1 f2 (by decide))).2.2
  rw [g1.val, g2.val, Rat.divInt_add_divInt _ _ (by omega) (by omega)] at g
  exact mf_of g (Int.mul_ne_zero (by omega) (by omega))
theorem m_sub : MF (rSub (rMk N D).1 (rMk M C).1) (N * C - M * D) (D * C) := by
  obtain ⟨g1, f1⟩ := m_few hN hD D0
  obtain ⟨g2, f2⟩ := m_few hM hC C0
  have g := (rSub_gives (FewR.sub f1 f2 (by decide))).2.2
  rw [g1.val, g2.val, Rat.divInt_sub_divInt _ _ (by omega) (by omega)] at g
  exact mf_of g (Int.mul_ne_zero (by omega) (by omega))
theorem m_mul : MF (rMul (rMk N D).1 (rMk M C).1) (N * M) (D * C) := by
  obtain ⟨g1, f1⟩ := m_few hN hD D0
  obtain ⟨g2, f2⟩ := m_few hM hC C0
  have g := (rMul_gives (FewR.mul f1 f2 (by decide))).2.2
  rw [g1.val, g2.val, Rat.divInt_mul_divInt] at g
  exact mf_of g (Int.mul_ne_zero (by omega) (by omega))
theorem m_div (h0 : M ≠ 0) : MF (rDiv (rMk N D).1 (rMk M C).1) (N * C) (D * M) := by
  obtain ⟨g1, f1⟩ := m_few hN hD D0
  obtain ⟨g2, f2⟩ := m_few hM hC C0
  have hq : qV (rMk M C).1 ≠ 0 := by
    rw [g2.val]
    intro e
    rw [← g2.val] at e
    have e2 := (qV_zero_iff f2.1).1 e
    have m := (mf_of g2 (by omega)).val
    rw [e2, Int.zero_mul] at m
    have p := (mf_of g2 (by omega)).pos
    rcases Int.mul_eq_zero.1 m.symm with h | h
    · exact h0 h
    · omega
  have g := (rDiv_gives (FewR.div f1 f2 hq (by decide))).2.2.2
  have e : Rat.divInt N D / Rat.divInt M C = Rat.divInt (N * C) (D * M) := by
    have d1 := castne (show D ≠ 0 by omega)
    have c1 := castne (show C ≠ 0 by omega)
    have m1 := castne h0
    rw [Rat.divInt_eq_div, Rat.divInt_eq_div, Rat.divInt_eq_div, Rat.intCast_mul, Rat.intCast_mul]
    grind
  rw [g1.val, g2.val, e] at g
  exact mf_of g (Int.mul_ne_zero (by omega) h0)
theorem m_div0 (h0 : M = 0) : rDiv (rMk N D).1 (rMk M C).1 = (noR, 40) := by
  obtain ⟨g1, f1⟩ := m_few hN hD D0
  obtain ⟨g2, f2⟩ := m_few hM hC C0
  have h : nS (rMk M C).1.1 = 0 := by
    have := (mf_of g2 (by omega)).b1
    subst h0
    omega
  unfold rDiv
  rw [if_pos (by simp [f1.1, f2.1]), rMk_no]
  rintro ⟨_, _, h3⟩
  exact h3 (by rw [h, Int.mul_zero])
theorem m_cmp : rCmp (rMk N D).1 (rMk M C).1 = cmpI (N * C) (M * D) := by
  obtain ⟨g1, f1⟩ := m_few hN hD D0
  obtain ⟨g2, f2⟩ := m_few hM hC C0
  rw [rCmp_val f1.1 f2.1, g1.val, g2.val, cmpQ_divInt D0 C0]
end

set_option maxRecDepth 100000 in
theorem machine_any (n d m c : Int) (nl : -9223372036854775808 ≤ n) (nh : n ≤ 9223372036854775807) (dl : -9223372036854775808 ≤ d) (dh : d ≤ 9223372036854775807) (ml : -9223372036854775808 ≤ m) (mh : m ≤ 9223372036854775807) (cl : -9223372036854775808 ≤ c) (ch : c ≤ 9223372036854775807) (w : World) (hg : Glob w) :
    Calls Tryz.prog 7 #[.int .i64 n, .int .i64 d, .int .i64 m, .int .i64 c] w fun e w' => e = .returned (.bool true) ∧ Below w.heap.size w w' := by
  refine law_runQ hg (ann := fun _ _ => none) (n := 4) (args := [svI n, svI d, svI m, svI c]) rfl ?_
  rw [machine_vc]
  have I : ∀ {n : Int}, -9223372036854775808 ≤ n → n ≤ 9223372036854775807 → i64 n = true := fun a b => i64_iff.2 ⟨a, b⟩
  have In := I nl nh
  have Id := I dl dh
  have Im := I ml mh
  have Ic := I cl ch
  have hN : (pickI n 60001 - 30000).natAbs ≤ 30000 := by have := pick_range n (n := 60001) (by decide); omega
  have hM : (pickI m 60001 - 30000).natAbs ≤ 30000 := by have := pick_range m (n := 60001) (by decide); omega
  have hD : (1 + pickI d 30000).natAbs ≤ 30000 := by have := pick_range d (n := 30000) (by decide); omega
  have hC : (1 + pickI c 30000).natAbs ≤ 30000 := by have := pick_range c (n := 30000) (by decide); omega
  have D0 : 0 < 1 + pickI d 30000 := by have := pick_range d (n := 30000) (by decide); omega
  have C0 : 0 < 1 + pickI c 30000 := by have := pick_range c (n := 30000) (by decide); omega
  generalize pickI n 60001 - 30000 = N at *
  generalize pickI m 60001 - 30000 = M at *
  generalize 1 + pickI d 30000 = D at *
  generalize 1 + pickI c 30000 = C at *
  have fa := (m_few hN hD D0).1
  have fb := (m_few hM hC C0).1
  have sa1 := sz_of (rV_parts fa.valid).1
  have sa2 := sz_of (rV_parts fa.valid).2.1
  have sb1 := sz_of (rV_parts fb.valid).1
  have sb2 := sz_of (rV_parts fb.valid).2.1
  have ea := fa.snd
  have eb := fb.snd
  have S := m_add hN hM hD hC D0 C0
  have U := m_sub hN hM hD hC D0 C0
  have Pm := m_mul hN hM hD hC D0 C0
  have V := m_div hN hM hD hC D0 C0
  have V0 := m_div0 hN hM hD hC D0 C0
  have cm := m_cmp hN hM hD hC D0 C0
  generalize rAdd (rMk N D).1 (rMk M C).1 = s at *
  generalize rSub (rMk N D).1 (rMk M C).1 = u at *
  generalize rMul (rMk N D).1 (rMk M C).1 = p at *
  generalize rDiv (rMk N D).1 (rMk M C).1 = v at *
  generalize rMk N D = a at *
  generalize rMk M C = b at *
  have nc := bnd hN hC
  have md := bnd hM hD
  have dc := bnd hD hC
  have nm := bnd hN hM
  have dm := bnd hD hM
  have r1 : inR .i64 N = true := inR_small (by omega) (by omega)
  have r2 : inR .i64 M = true := inR_small (by omega) (by omega)
  have r3 : inR .i64 D = true := inR_small (by omega) (by omega)
  have r4 : inR .i64 C = true := inR_small (by omega) (by omega)
  have R : ∀ {x : Int}, x.natAbs ≤ 2000000000 → inR .i64 x = true := by
    intro x h; rw [inR_iff]; simp only [kLo, kHi]; omega
  have q1 := R (x := N * C) (by omega)
  have q2 := R (x := M * D) (by omega)
  have q3 := R (x := N * C + M * D) (by omega)
  have q4 := R (x := D * C) (by omega)
  have q5 := R (x := N * C - M * D) (by omega)
  have q6 := R (x := N * M) (by omega)
  have q7 := R (x := D * M) (by omega)
  have J : ∀ {x : Int}, inR .i64 x = true → i64 x = true := fun h => h
  have tests : ∀ {x : RS × Int} {e f : Int}, MF x e f → e.natAbs ≤ 2000000000 → f.natAbs ≤ 900000000 →
      (vS x.1.1 && decide ((nS x.1.1).natAbs < 1000000000000000)) = true ∧ (vS x.1.2 && decide ((nS x.1.2).natAbs < 1000000000000000)) = true ∧
      inR .i64 (nS x.1.1 * f) = true ∧ inR .i64 (e * nS x.1.2) = true ∧ sz x.1.1 = true ∧ sz x.1.2 = true ∧ decide (nS x.1.2 < 1) = false ∧ (nS x.1.1 * f != e * nS x.1.2) = false ∧ (x.2 != 0) = false ∧ rV x.1 = true := by
    intro x e f h he hf
    have b1 := h.b1
    have b2 := h.b2
    refine ⟨by rw [h.v1, Bool.true_and, decide_eq_true_eq]; omega, by rw [h.v2, Bool.true_and, decide_eq_true_eq]; omega, inR_mul (by omega) (by omega), inR_mul he (by omega), sz_of h.v1, sz_of h.v2, by have := h.pos; simp; omega, by rw [h.val]; simp, by rw [h.ok]; rfl, h.rv⟩
  obtain ⟨s1, s2, s3, s4, s5, s6, s7, s8, s9, s10⟩ := tests S (by omega) dc
  obtain ⟨u1, u2, u3, u4, u5, u6, u7, u8, u9, u10⟩ := tests U (by omega) dc
  obtain ⟨p1, p2, p3, p4, p5, p6, p7, p8, p9, p10⟩ := tests Pm (by omega) dc
  unfold MV
  simp only [In, Id, Im, Ic, J r1, J r2, J r3, J r4, r1, r2, r3, r4, q1, q2, q3, q4, q5, q6, q7, sa1, sa2, sb1, sb2, s1, s2, s3, s4, s5, s6, s7, s8, s9, s10, u1, u2, u3, u4, u5, u6, u7, u8, u9, u10, p1, p2, p3, p4, p5, p6, p7, p8, p9, p10, ea, eb, Bool.and_self, Bool.and_true, Bool.true_and, Bool.false_and, Bool.or_self, Bool.not_true, Bool.not_false, needB_true, impB_true, beq_self_eq_true]
  have br : ∀ {b : Bool} {A B : Prop}, b = false → branch b A B = B := fun h => by rw [h]; rfl
  rw [br rfl, br rfl, br rfl]
  have last : branch (decide (N * C < M * D)) (Yes (SV.val (Value.bool (rCmp a.1 b.1 == -1)))) (branch (decide (N * C > M * D)) (Yes (SV.val (Value.bool (rCmp a.1 b.1 == 1)))) (Yes (SV.val (Value.bool (rCmp a.1 b.1 == 0))))) := by
    rw [cm]
    simp only [branch_iff, yes_iff, decide_eq_true_eq, decide_eq_false_iff_not, beq_iff_eq]
    unfold cmpI
    refine ⟨fun h => by rw [if_pos h], fun h => ⟨fun h2 => by rw [if_neg h, if_pos (by omega)], fun h2 => by rw [if_neg h, if_neg (by omega)]⟩⟩
  rw [branch_iff]
  refine ⟨fun h => ?_, fun h => ?_⟩
  · have h0 : M = 0 := by simpa using h
    rw [V0 h0]
    rw [br (by decide)]
    exact last
  · have h0 : M ≠ 0 := by simpa using h
    obtain ⟨v1, v2, v3, v4, v5, v6, v7, v8, v9, v10⟩ := tests (V h0) (by omega) dm
    simp only [v1, v2, v3, v4, v5, v6, v7, v8, v9, v10, Bool.and_self, Bool.and_true, Bool.true_and, Bool.false_and, Bool.or_self, Bool.not_true, Bool.not_false, needB_true, impB_true]
    rw [br rfl]
    exact last
end Go.Proofs.YtgeoidnleagloaaGreatDoor
