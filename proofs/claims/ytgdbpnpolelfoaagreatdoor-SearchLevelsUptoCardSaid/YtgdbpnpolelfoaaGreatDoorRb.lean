/- The reference: what is formed. -/
import Derived.Test.YtgdbpnpolelfoaaGreatDoorRa
import Derived.Test.YtgdbpnpolelfoaaGreatDoorWb
import Derived.Test.YtgdbpnpolelfoaaGreatDoorWc
set_option linter.all false
/- The reference: texts and whole numbers that are admitted. -/
namespace Go.AJ
open Go
set_option maxRecDepth 100000
section
variable {E : Env} {L n : Nat} {h : Hp} {kc : KC} {t : T V} {d : Dc} {k : KE} {fi : FI} {c : KV} {C : CallF}
theorem loop1311 {s : List Nat} (hs : s.length ≤ 9223372036854775807) : ∀ (r : List Nat) (i M : Nat) (t : T V), s.drop i = r → i + r.length = s.length → r.length + 1 ≤ M → T.get und (K.of 0) t = .str s → T.get und (K.of 3) t = .int .i64 (.ofNat i) →
  (r.any badB = false → ∀ t1, k (.exit 0) t1 d h = true) → (r.any badB = true → ∀ t1, T.get und (K.of 2) t1 = .bool false → k .ret t1 d h = true) →
  iter (exec C L fi b1311_0) M t d h k = true := by
 intro r
 induction r with
 | nil =>
  intro i M t hr hi hM g0 g3 hk hb
  obtain ⟨M, rfl⟩ := pM M
  have hi' : (i < s.length) = False := eq_false (by simp at hi; omega)
  rw [iter_succ, b1311_0]
  refine Tst (J3 g0 g3 hi') ?_
  exact hk rfl _
 | cons x r ih =>
  intro i M t hr hi hM g0 g3 hk hb
  obtain ⟨M, rfl⟩ := pM M
  simp only [List.length_cons] at hi hM
  have hi' : (i < s.length) = True := eT
  have e1 := fun c h => idxS_nat (c := c) (h := h) (ik := .i64) (at_drop hr)
  simp only [List.any_cons] at hk hb
  rw [iter_succ, b1311_0]
  by_cases h1 : x < 32
  ·refine Tst (J5 g0 g3 hi' e1 h1) ?_
   refine hb (by simp [badB, h1]) _ (Ssc0)
  ·by_cases h2 : 126 < x
   ·refine Tst (J6 g0 g3 hi' e1 h1 h2) ?_
    refine hb (by simp [badB, h2]) _ (Ssc0)
   ·refine Tst (J6 g0 g3 hi' e1 h1 h2) ?_
    have hx0 : badB x = false := by simp [badB, h1, h2]
    rw [hx0, Bool.false_or] at hk hb
    refine ih (i + 1) _ _ (drop_next hr) tO tO ?_ ?_ hk hb
    ·exact Ssc g0
    ·exact Ssc0
theorem call1311 (hF : Hns E) {s : List Nat} (hs : s.length ≤ 9223372036854775807) (hL : s.length ≤ L) (hk : kc (.ret (.bool (printS s))) none h = true) :
  call E (L + 1) (n + 1) (.fn 311) [.str s] none h kc = true := by
 rw [call_fn hF.f1311, c1311, r1311, p1311_0, p1311_1, p1311_2, p1311_3]
 by_cases h2 : 200 < s.length
 ·have e : printS s = false := by rw [printS, decide_eq_false (by omega : ¬ s.length ≤ 200), Bool.and_false]
  rw [e] at hk
  refine Tst h2 ?_
  exact hk
 have e : printS s = !s.any badB := by rw [printS, decide_eq_true (by omega : s.length ≤ 200), Bool.and_true]
 rw [e] at hk
 refine Tst (J2 h2 @exec_loop) ?_
 refine loop1311 hs s 0 _ _ rfl tO tO ?_ ?_ (fun hb t1 => ?_) (fun hb t1 g2 => ?_)
 ·exact Ssc0
 ·exact Ssc0
 ·rw [hb] at hk
  refine Sst0 ?_
  exact hk
 ·rw [hb] at hk
  refine Sst g2 ?_
  exact hk
def nameAt (i x : Nat) : Bool := letterN x || (((!decide (x < 48) && !decide (57 < x)) || decide (x = 95)) && !decide (i = 0))
def nameGo : Nat → List Nat → Bool
 | _, [] => true
 | i, x :: r => nameAt i x && nameGo (i + 1) r
theorem nameGo_succ : ∀ (r : List Nat) (i : Nat), nameGo (i + 1) r = r.all insideN
 | [], _ => rfl
 | x :: r, i => by
  rw [nameGo, nameGo_succ r (i + 1), List.all_cons]
  congr 1
  unfold nameAt insideN
  rw [decide_eq_false (by omega : ¬ i + 1 = 0)]
  cases letterN x <;> simp
theorem inside_letter {x : Nat} (h : letterN x = true) : insideN x = true := by unfold insideN; rw [h]; rfl
theorem nameGo_zero (x : Nat) (r : List Nat) : nameGo 0 (x :: r) = (letterN x && (x :: r).all insideN) := by
 rw [nameGo, nameGo_succ, List.all_cons, nameAt]
 cases h : letterN x
 ·simp
 ·rw [inside_letter h]; rfl
theorem loop1312 {s : List Nat} (hs : s.length ≤ 9223372036854775807) : ∀ (r : List Nat) (i M : Nat) (t : T V), s.drop i = r → i + r.length = s.length → r.length + 1 ≤ M → T.get und (K.of 0) t = .str s → T.get und (K.of 3) t = .int .i64 (.ofNat i) →
  (nameGo i r = true → ∀ t1, k (.exit 0) t1 d h = true) → (nameGo i r = false → ∀ t1, T.get und (K.of 2) t1 = .bool false → k .ret t1 d h = true) →
  iter (exec C L fi b1312_0) M t d h k = true := by
 intro r
 induction r with
 | nil =>
  intro i M t hr hi hM g0 g3 hk hb
  obtain ⟨M, rfl⟩ := pM M
  have hi' : (i < s.length) = False := eq_false (by simp at hi; omega)
  rw [iter_succ, b1312_0]
  refine Tst (J3 g0 g3 hi') ?_
  exact hk rfl _
 | cons x r ih =>
  intro i M t hr hi hM g0 g3 hk hb
  obtain ⟨M, rfl⟩ := pM M
  simp only [List.length_cons] at hi hM
  have hi' : (i < s.length) = True := eT
  have e1 := fun c h => idxS_nat (c := c) (h := h) (ik := .i64) (at_drop hr)
  rw [nameGo] at hk hb
  rw [iter_succ, b1312_0]
  have fin : nameAt i x = true → ∀ tt : T V, T.get und (K.of 0) tt = .str s → T.get und (K.of 3) tt = .int .i64 (.ofNat (i + 1)) → iter (exec C L fi b1312_0) M tt d h k = true := fun ha tt u0 u3 => by
   rw [ha, Bool.true_and] at hk hb
   exact ih (i + 1) _ _ (drop_next hr) tO tO u0 u3 hk hb
  have bad : nameAt i x = false → (nameAt i x && nameGo (i + 1) r) = false := fun ha => by rw [ha]; rfl
  have cases9 : x < 48 ∨ (48 ≤ x ∧ x ≤ 57) ∨ (57 < x ∧ x < 65) ∨ (65 ≤ x ∧ x ≤ 90) ∨ (90 < x ∧ x < 95) ∨ x = 95 ∨ x = 96 ∨ (97 ≤ x ∧ x ≤ 122) ∨ 122 < x := by omega
  rcases cases9 with q | q | q | q | q | q | q | q | q
  ·have a1 : (x < 65) = True := eT
   have a2 : (90 < x) = False := eF
   have a3 : (x < 97) = True := eT
   have a4 : (122 < x) = False := eF
   have a5 : (x < 48) = True := eT
   have a6 : (57 < x) = False := eF
   have a7 : (x = 95) = False := eF
   have ha : nameAt i x = false := by simp [nameAt, letterN, a1, a2, a3, a4, a5, a6, a7]
   refine Tst (J11 g0 g3 hi' e1 a1 a2 a3 a4 a5 a6 a7) ?_
   exact hb (bad ha) _ (Ssc0)
  ·have a1 : (x < 65) = True := eT
   have a2 : (90 < x) = False := eF
   have a3 : (x < 97) = True := eT
   have a4 : (122 < x) = False := eF
   have a5 : (x < 48) = False := eF
   have a6 : (57 < x) = False := eF
   have a7 : (x = 95) = False := eF
   by_cases i0 : i = 0
   ·have i1 : decide (i = 0) = true := decide_eq_true i0
    have ha : nameAt i x = false := by simp [nameAt, letterN, a1, a2, a3, a4, a5, a6, a7, i0]
    refine Tst (J12 g0 g3 hi' e1 a1 a2 a3 a4 a5 a6 a7 i1) ?_
    refine hb (bad ha) _ ?_
    exact Ssc0
   ·have i1 : decide (i = 0) = false := decide_eq_false i0
    have ha : nameAt i x = true := by simp [nameAt, letterN, a1, a2, a3, a4, a5, a6, a7, i0]
    refine Tst (J12 g0 g3 hi' e1 a1 a2 a3 a4 a5 a6 a7 i1) ?_
    refine fin ha _ ?_ ?_ <;> simp -implicitDefEqProofs (disch := exact tD) only [↓sD, sB, ↓reduceIte, Nat.reduceEqDiff, reduceCtorEq, Nat.reduceLT, Nat.reduceMul, Nat.reduceAdd, g0]
  ·have a1 : (x < 65) = True := eT
   have a2 : (90 < x) = False := eF
   have a3 : (x < 97) = True := eT
   have a4 : (122 < x) = False := eF
   have a5 : (x < 48) = False := eF
   have a6 : (57 < x) = True := eT
   have a7 : (x = 95) = False := eF
   have ha : nameAt i x = false := by simp [nameAt, letterN, a1, a2, a3, a4, a5, a6, a7]
   refine Tst (J11 g0 g3 hi' e1 a1 a2 a3 a4 a5 a6 a7) ?_
   exact hb (bad ha) _ (Ssc0)
  ·have a1 : (x < 65) = False := eF
   have a2 : (90 < x) = False := eF
   have a3 : (x < 97) = True := eT
   have a4 : (122 < x) = False := eF
   have a5 : (x < 48) = False := eF
   have a6 : (57 < x) = True := eT
   have a7 : (x = 95) = False := eF
   have ha : nameAt i x = true := by simp [nameAt, letterN, a1, a2, a3, a4, a5, a6, a7]
   refine Tst (J11 g0 g3 hi' e1 a1 a2 a3 a4 a5 a6 a7) ?_
   refine fin ha _ ?_ ?_ <;> simp -implicitDefEqProofs (disch := exact tD) only [↓sD, sB, ↓reduceIte, Nat.reduceEqDiff, reduceCtorEq, Nat.reduceLT, Nat.reduceMul, Nat.reduceAdd, g0]
  ·have a1 : (x < 65) = False := eF
   have a2 : (90 < x) = True := eT
   have a3 : (x < 97) = True := eT
   have a4 : (122 < x) = False := eF
   have a5 : (x < 48) = False := eF
   have a6 : (57 < x) = True := eT
   have a7 : (x = 95) = False := eF
   have ha : nameAt i x = false := by simp [nameAt, letterN, a1, a2, a3, a4, a5, a6, a7]
   refine Tst (J11 g0 g3 hi' e1 a1 a2 a3 a4 a5 a6 a7) ?_
   exact hb (bad ha) _ (Ssc0)
  ·have a1 : (x < 65) = False := eF
   have a2 : (90 < x) = True := eT
   have a3 : (x < 97) = True := eT
   have a4 : (122 < x) = False := eF
   have a5 : (x < 48) = False := eF
   have a6 : (57 < x) = True := eT
   have a7 : (x = 95) = True := eT
   by_cases i0 : i = 0
   ·have i1 : decide (i = 0) = true := decide_eq_true i0
    have ha : nameAt i x = false := by simp [nameAt, letterN, a1, a2, a3, a4, a5, a6, a7, i0]
    refine Tst (J12 g0 g3 hi' e1 a1 a2 a3 a4 a5 a6 a7 i1) ?_
    refine hb (bad ha) _ ?_
    exact Ssc0
   ·have i1 : decide (i = 0) = false := decide_eq_false i0
    have ha : nameAt i x = true := by simp [nameAt, letterN, a1, a2, a3, a4, a5, a6, a7, i0]
    refine Tst (J12 g0 g3 hi' e1 a1 a2 a3 a4 a5 a6 a7 i1) ?_
    refine fin ha _ ?_ ?_ <;> simp -implicitDefEqProofs (disch := exact tD) only [↓sD, sB, ↓reduceIte, Nat.reduceEqDiff, reduceCtorEq, Nat.reduceLT, Nat.reduceMul, Nat.reduceAdd, g0]
  ·have a1 : (x < 65) = False := eF
   have a2 : (90 < x) = True := eT
   have a3 : (x < 97) = True := eT
   have a4 : (122 < x) = False := eF
   have a5 : (x < 48) = False := eF
   have a6 : (57 < x) = True := eT
   have a7 : (x = 95) = False := eF
   have ha : nameAt i x = false := by simp [nameAt, letterN, a1, a2, a3, a4, a5, a6, a7]
   refine Tst (J11 g0 g3 hi' e1 a1 a2 a3 a4 a5 a6 a7) ?_
   exact hb (bad ha) _ (Ssc0)
  ·have a1 : (x < 65) = False := eF
   have a2 : (90 < x) = True := eT
   have a3 : (x < 97) = False := eF
   have a4 : (122 < x) = False := eF
   have a5 : (x < 48) = False := eF
   have a6 : (57 < x) = True := eT
   have a7 : (x = 95) = False := eF
   have ha : nameAt i x = true := by simp [nameAt, letterN, a1, a2, a3, a4, a5, a6, a7]
   refine Tst (J11 g0 g3 hi' e1 a1 a2 a3 a4 a5 a6 a7) ?_
   refine fin ha _ ?_ ?_ <;> simp -implicitDefEqProofs (disch := exact tD) only [↓sD, sB, ↓reduceIte, Nat.reduceEqDiff, reduceCtorEq, Nat.reduceLT, Nat.reduceMul, Nat.reduceAdd, g0]
  ·have a1 : (x < 65) = False := eF
   have a2 : (90 < x) = True := eT
   have a3 : (x < 97) = False := eF
   have a4 : (122 < x) = True := eT
   have a5 : (x < 48) = False := eF
   have a6 : (57 < x) = True := eT
   have a7 : (x = 95) = False := eF
   have ha : nameAt i x = false := by simp [nameAt, letterN, a1, a2, a3, a4, a5, a6, a7]
   refine Tst (J11 g0 g3 hi' e1 a1 a2 a3 a4 a5 a6 a7) ?_
   exact hb (bad ha) _ (Ssc0)
theorem call1312 (hF : Hns E) {s : List Nat} (hs : s.length ≤ 9223372036854775807) (hL : s.length ≤ L) (hk : kc (.ret (.bool (namedS s))) none h = true) :
  call E (L + 1) (n + 1) (.fn 312) [.str s] none h kc = true := by
 rw [call_fn hF.f1312, c1312, r1312, p1312_0, p1312_1, p1312_2, p1312_3]
 cases s with
 | nil => simp -implicitDefEqProofs (disch := exact tD) only [↓sD, sB, ↓reduceIte, Nat.reduceEqDiff, reduceCtorEq, Nat.reduceLT, Nat.reduceMul, Nat.reduceAdd, ltI_ofNat, List.length_nil, decide_true]; exact hk
 | cons x r =>
  have h0 : ((x :: r).length < 1) = False := eq_false (by simp)
  by_cases h1 : 40 < (x :: r).length
  ·have e : namedS (x :: r) = false := by simp only [namedS, h1, decide_true, Bool.not_true, Bool.false_and]
   rw [e] at hk
   simp -implicitDefEqProofs (disch := exact tD) only [↓sD, sB, ↓reduceIte, Nat.reduceEqDiff, reduceCtorEq, Nat.reduceLT, Nat.reduceMul, Nat.reduceAdd, ltI_ofNat, h0, h1, decide_true, decide_false]; exact hk
  ·cases h3 : beqL (x :: r) [84, 82, 85, 69]
   ·cases h4 : beqL (x :: r) [70, 65, 76, 83, 69]
    ·have e : namedS (x :: r) = nameGo 0 (x :: r) := by simp only [namedS, h1, h3, h4, decide_false, Bool.not_false, Bool.true_and, Bool.and_true, nameGo_zero]
     rw [e] at hk
     refine Tst (J5 h0 h1 h3 h4 @exec_loop) ?_
     refine loop1312 hs (x :: r) 0 _ _ rfl tO tO ?_ ?_ (fun hb t1 => ?_) (fun hb t1 g2 => ?_)
     ·exact Ssc0
     ·exact Ssc0
     ·rw [hb] at hk
      refine Sst0 ?_
      exact hk
     ·rw [hb] at hk
      refine Sst g2 ?_
      exact hk
    ·have e : namedS (x :: r) = false := by simp only [namedS, h4, Bool.not_true, Bool.and_false, Bool.false_and]
     rw [e] at hk
     simp -implicitDefEqProofs (disch := exact tD) only [↓sD, sB, ↓reduceIte, Nat.reduceEqDiff, reduceCtorEq, Nat.reduceLT, Nat.reduceMul, Nat.reduceAdd, ltI_ofNat, h0, h1, decide_false, h3, h4]; exact hk
   ·have e : namedS (x :: r) = false := by simp only [namedS, h3, Bool.not_true, Bool.and_false, Bool.false_and]
    rw [e] at hk
    simp -implicitDefEqProofs (disch := exact tD) only [↓sD, sB, ↓reduceIte, Nat.reduceEqDiff, reduceCtorEq, Nat.reduceLT, Nat.reduceMul, Nat.reduceAdd, ltI_ofNat, h0, h1, decide_false, h3]; exact hk
theorem call1309 (hF : Hns E) {ng xb : Bool} {cb : Nat} {a : List Int} (hk : ∀ h1, Keeps h h1 → kc (.ret (.bool (!(ng || decide (0 < a.length))))) none h1 = true) :
  call E (L + 1) (n + 1) (.fn 309) [.agg [.bool ng, slR xb cb (intsZ a) a.length]] none h kc = true := by
 rw [call_fn hF.f1309, c1309, r1309, p1309_0, p1309_1]
 have K1 : Keeps h (h.upd (nxt h) (.cells [.bool ng, slR xb cb (intsZ a) a.length])).bump := kO
 have hk1 := hk _ K1
 cases ng
 ·refine Tst0 ?_
  have e : (!(false || decide (0 < a.length))) = decide (a.length = 0) := by
   by_cases h0 : a.length = 0 <;> simp [h0] <;> omega
  rw [e] at hk1
  exact hk1
 ·refine Sst0 ?_
  exact hk1
theorem badD_of (x : Int) : badD x = (ltI x (.ofNat 0) || ltI (.ofNat 999999999) x) := by
 unfold badD
 rw [ltI_eq, ltI_eq, ltI_eq]
 simp only [Int.ofNat_eq_natCast]
 by_cases h1 : x < 0 <;> by_cases h2 : x < 1000000000 <;> by_cases h3 : 999999999 < x <;> simp [h1, h2, h3] <;> omega
theorem loop1310 {b1 : K} {ng xb : Bool} {cb : Nat} {a : List Int} (m1 : blk h b1 = .cells [.bool ng, slR xb cb (intsZ a) a.length]) (hs : a.length ≤ 9223372036854775807) : ∀ (r : List Int) (i M : Nat) (t : T V), a.drop i = r → i + r.length = a.length → r.length + 1 ≤ M → T.get und (K.of 1) t = .ptr b1 0 → T.get und (K.of 3) t = .int .i64 (.ofNat a.length) → T.get und (K.of 4) t = .int .i64 (.ofNat i) →
  (r.any badD = false → ∀ t1, k (.exit 0) t1 d h = true) → (r.any badD = true → ∀ t1, T.get und (K.of 2) t1 = .bool false → k .ret t1 d h = true) →
  iter (exec C L fi b1310_0) M t d h k = true := by
 intro r
 induction r with
 | nil =>
  intro i M t hr hi hM g1 g3 g4 hk hb
  obtain ⟨M, rfl⟩ := pM M
  have hi' : (i < a.length) = False := eq_false (by simp at hi; omega)
  rw [iter_succ, b1310_0]
  refine Tst (J3 g3 g4 hi') ?_
  exact hk rfl _
 | cons x r ih =>
  intro i M t hr hi hM g1 g3 g4 hk hb
  obtain ⟨M, rfl⟩ := pM M
  simp only [List.length_cons] at hi hM
  have hi' : (i < a.length) = True := eT
  have hx : a.getD i 0 = x := by rw [List.getD_eq_getElem?_getD, at_drop hr]; rfl
  have e1 := fun c h => load1_rp (c := c) (h := h) (intsZ_get (l := a) (i := i) tO)
  simp only [hx] at e1
  simp only [List.any_cons] at hk hb
  rw [iter_succ, b1310_0]
  cases h1 : ltI x (.ofNat 0)
  ·cases h2 : ltI (.ofNat 999999999) x
   ·have hx0 : badD x = false := by rw [badD_of, h1, h2]; rfl
    rw [hx0, Bool.false_or] at hk hb
    refine Tst (J8 g1 g3 g4 hi' m1 e1 h1 h2) ?_
    refine ih (i + 1) _ _ (drop_next hr) tO tO ?_ ?_ ?_ hk hb
    ·exact Ssc g1
    ·exact Ssc g3
    ·exact Ssc0
   ·refine Tst (J8 g1 g3 g4 hi' m1 e1 h1 h2) ?_
    refine hb (by rw [badD_of, h1, h2]; rfl) _ (Ssc0)
  ·refine Tst (J7 g1 g3 g4 hi' m1 e1 h1) ?_
   refine hb (by rw [badD_of, h1]; rfl) _ (Ssc0)
theorem call1310 (hF : Hns E) {ng xb : Bool} {cb : Nat} {a : List Int} (hL : a.length ≤ L) (hs : a.length ≤ 9223372036854775807) (hk : ∀ h1, Keeps h h1 → kc (.ret (.bool (numOK ng a))) none h1 = true) :
  call E (L + 1) (n + 1) (.fn 310) [.agg [.bool ng, slR xb cb (intsZ a) a.length]] none h kc = true := by
 rw [call_fn hF.f1310, c1310, r1310, p1310_0, p1310_1, p1310_2, p1310_3, p1310_4]
 have K1 : Keeps h (h.upd (nxt h) (.cells [.bool ng, slR xb cb (intsZ a) a.length])).bump := kO
 have hk1 := hk _ K1
 by_cases c1 : 40 < a.length
 ·have e : numOK ng a = false := by simp only [numOK, c1, decide_true, Bool.not_true, Bool.false_and]
  rw [e] at hk1
  simp -implicitDefEqProofs (disch := exact tD) only [↓sD, sB, ↓reduceIte, Nat.reduceEqDiff, reduceCtorEq, Nat.reduceLT, Nat.reduceMul, Nat.reduceAdd, ltI_ofNat, c1, decide_true]
  exact hk1
 by_cases c2 : a.length = 0
 ·cases ng
  ·have ea : a = [] := List.length_eq_zero_iff.1 c2
   subst ea
   have hk2 : kc (.ret (.bool true)) none (h.upd (nxt h) (.cells [.bool false, slR xb cb (intsZ []) 0])).bump = true := hk1
   simp -implicitDefEqProofs (disch := exact tD) only [↓sD, sB, ↓reduceIte, Nat.reduceEqDiff, reduceCtorEq, Nat.reduceLT, Nat.reduceMul, Nat.reduceAdd, ltI_ofNat, beqI_ofNat, List.length_nil, Nat.not_lt_zero, decide_false, decide_true, exec_loop]
   refine loop1310 (b1 := nxt h) (ng := false) (xb := xb) (cb := cb) (a := []) (by simp -implicitDefEqProofs (disch := exact tD) only [↓sD, sB, ↓reduceIte, Nat.reduceEqDiff, reduceCtorEq, Nat.reduceLT, Nat.reduceMul, Nat.reduceAdd, List.length_nil]) (by simp) [] 0 _ _ rfl rfl (by simp) ?_ ?_ ?_ (fun _ t1 => ?_) (fun hb => by cases hb)
   ·exact Ssc0
   ·simp -implicitDefEqProofs (disch := exact tD) only [↓sD, sB, ↓reduceIte, Nat.reduceEqDiff, reduceCtorEq, Nat.reduceLT, Nat.reduceMul, Nat.reduceAdd, List.length_nil]
   ·exact Ssc0
   ·refine Sst0 ?_
    exact hk2
  ·have e : numOK true a = false := by simp only [numOK, c2, decide_true, Bool.and_self, Bool.not_true, Bool.and_false, Bool.false_and]
   rw [e] at hk1
   simp -implicitDefEqProofs (disch := exact tD) only [↓sD, sB, ↓reduceIte, Nat.reduceEqDiff, reduceCtorEq, Nat.reduceLT, Nat.reduceMul, Nat.reduceAdd, ltI_ofNat, beqI_ofNat, c1, c2, decide_true, decide_false]
   rw [c2] at hk1
   exact hk1
 ·have c3 : (0 < a.length) = True := eT
  have e1 := fun c h => load1_rp (c := c) (h := h) (intsZ_get (l := a) (i := a.length - 1) tO)
  have e2 : wrapI .i64 (Int.sub (.ofNat a.length) (.ofNat 1)) = .ofNat (a.length - 1) := by
   obtain ⟨m, hm⟩ : ∃ m, a.length = m + 1 := ⟨a.length - 1, by omega⟩
   rw [hm]; exact wrap_dec (i := m + 1) tO
  cases c4 : beqI (a.getD (a.length - 1) 0) (.ofNat 0)
  ·have e : numOK ng a = !a.any badD := by simp only [numOK, c1, c2, c3, c4, decide_true, decide_false, Bool.not_false, Bool.true_and, Bool.false_and, Bool.and_false]
   rw [e] at hk1
   simp -implicitDefEqProofs (disch := exact tD) only [↓sD, sB, ↓reduceIte, Nat.reduceEqDiff, reduceCtorEq, Nat.reduceLT, Nat.reduceMul, Nat.reduceAdd, ltI_ofNat, beqI_ofNat, c1, c2, c3, c4, decide_true, decide_false, e2, idx_slR, e1, exec_loop]
   refine loop1310 (b1 := nxt h) (ng := ng) (xb := xb) (cb := cb) (a := a) (Ssc0) hs a 0 _ _ rfl tO tO ?_ ?_ ?_ (fun hb t1 => ?_) (fun hb t1 g2 => ?_)
   ·exact Ssc0
   ·exact Ssc0
   ·exact Ssc0
   ·rw [hb] at hk1
    refine Sst0 ?_
    exact hk1
   ·rw [hb] at hk1
    refine Sst g2 ?_
    exact hk1
  ·have e : numOK ng a = false := by simp only [numOK, c3, c4, decide_true, Bool.and_self, Bool.not_true, Bool.and_false, Bool.false_and]
   rw [e] at hk1
   simp -implicitDefEqProofs (disch := exact tD) only [↓sD, sB, ↓reduceIte, Nat.reduceEqDiff, reduceCtorEq, Nat.reduceLT, Nat.reduceMul, Nat.reduceAdd, ltI_ofNat, beqI_ofNat, c1, c2, c3, c4, decide_true, decide_false, e2, idx_slR, e1]
   exact hk1
end
end Go.AJ
/- The reference: sizes, forms; what is a value. -/
namespace Go.AJ
open Go
set_option maxRecDepth 100000
mutual
def Va.cnt : Va → Nat
 | .mk _ _ _ _ _ _ _ _ _ l _ _ m => 1 + cntL l + cntL m
def cntL : List Va → Nat
 | [] => 0
 | x :: l => x.cnt + cntL l
end
mutual
theorem Va.cnt_le : ∀ x : Va, x.cnt ≤ x.bulk
 | .mk _ _ _ _ _ _ _ _ _ l _ _ m => by
  have h1 := cntL_le l
  have h2 := cntL_le m
  rw [Va.cnt, Va.bulk]; omega
theorem cntL_le : ∀ l : List Va, cntL l ≤ bulkL l
 | [] => Nat.le_refl 0
 | x :: l => by
  have h1 := Va.cnt_le x
  have h2 := cntL_le l
  rw [cntL, bulkL]; omega
end
mutual
theorem Va.dep_le : ∀ x : Va, x.dep ≤ x.bulk
 | .mk _ _ _ _ _ _ _ _ _ l _ _ m => by
  have h1 := depL_le l
  have h2 := depL_le m
  rw [Va.dep, Va.bulk]; omega
theorem depL_le : ∀ l : List Va, depL l ≤ bulkL l
 | [] => Nat.le_refl 0
 | x :: l => by
  have h1 := Va.dep_le x
  have h2 := depL_le l
  rw [depL, bulkL]; omega
end
section
variable {E : Env} {L n : Nat} {h : Hp} {kc : KC} {t : T V} {d : Dc} {k : KE} {fi : FI} {c : KV} {C : CallF}
theorem mxn_nat {a b : Nat} {f : V → Bool} : oMxn true [.int .i64 (.ofNat b)] (.int .i64 (.ofNat a)) f = f (.int .i64 (.ofNat (max a b))) := by
 rw [mxn_max, ltI_ofNat]
 by_cases h : a < b
 ·rw [decide_eq_true h, if_pos rfl, Nat.max_eq_right tO]
 ·rw [decide_eq_false h, if_neg (by simp), Nat.max_eq_left tO]
theorem ifmax {a b : Nat} : (if decide (a < b) = true then Int.ofNat b else Int.ofNat a) = Int.ofNat (max a b) := by
 by_cases h : a < b
 ·rw [decide_eq_true h, if_pos rfl, Nat.max_eq_right tO]
 ·rw [decide_eq_false h, if_neg (by simp), Nat.max_eq_left tO]
def SizeR (E : Env) (L n D : Nat) : Prop := ∀ (x : Va) (h : Hp) (kc : KC), x.dep ≤ D → x.bulk ≤ L → (∀ h1, Keeps h h1 → kc (.ret (.tup [.int .i64 (.ofNat x.cnt), .int .i64 (.ofNat x.dep)])) none h1 = true) →
 call E (L + 1) n (.fn 152) [.agg x.cells] none h kc = true
theorem loop1152_0 {D : Nat} (hS : SizeR E L n D) (hL9 : L ≤ 9223372036854775807) {b1 : K} {v0 v1 v2 v3 v4 v6 : V} {lb : Bool} {lc : Nat} {l : List Va} {h0 : Hp} (nb : b1.num < (nxt h0).num) (m1 : blk h0 b1 = .cells [v0, v1, v2, v3, v4, slR lb lc (rowsV l) l.length, v6]) (hl : bulkL l ≤ L) :
  ∀ (r : List Va) (i M : Nat) (t : T V) (h : Hp) (a dp : Nat), l.drop i = r → i + r.length = l.length → r.length + 1 ≤ M → depL r ≤ D → bulkL r ≤ L → a + cntL r ≤ 9223372036854775807 → Keeps h0 h →
  T.get und (K.of 1) t = .ptr b1 0 → T.get und (K.of 4) t = .int .i64 (.ofNat a) → T.get und (K.of 5) t = .int .i64 (.ofNat dp) → T.get und (K.of 6) t = .int .i64 (.ofNat i) →
  (∀ t1 h1, Keeps h0 h1 → T.get und (K.of 1) t1 = .ptr b1 0 → T.get und (K.of 4) t1 = .int .i64 (.ofNat (a + cntL r)) → T.get und (K.of 5) t1 = .int .i64 (.ofNat (max dp (depL r))) → k (.exit 0) t1 d h1 = true) →
  iter (exec (call E (L + 1) n) (L + 1) fi b1152_0) M t d h k = true := by
 intro r
 have hll := len_bulk l
 induction r with
 | nil =>
  intro i M t h a dp hr hi hM hd hb ha K0 g1 g4 g5 g6 hk
  obtain ⟨M, rfl⟩ := pM M
  have mb : blk h b1 = _ := (K0.old b1 nb).trans m1
  have hi' : (i < l.length) = False := eq_false (by simp at hi; omega)
  rw [iter_succ, b1152_0]
  refine Tst (J4 g1 g6 mb hi') ?_
  refine hk _ _ K0 ?_ ?_ ?_ <;> simp -implicitDefEqProofs (disch := exact tD) only [↓sD, sB, ↓reduceIte, Nat.reduceEqDiff, reduceCtorEq, Nat.reduceLT, Nat.reduceMul, Nat.reduceAdd, g1, g4, g5, cntL, depL, Nat.add_zero, Nat.max_zero]
 | cons x r ih =>
  intro i M t h a dp hr hi hM hd hb ha K0 g1 g4 g5 g6 hk
  obtain ⟨M, rfl⟩ := pM M
  simp only [List.length_cons] at hi hM
  simp only [depL, bulkL, cntL] at hd hb ha
  have mb : blk h b1 = _ := (K0.old b1 nb).trans m1
  have hi' : (i < l.length) = True := eT
  have e1 := fun c h => load7 (c := c) (h := h) (at_drop hr)
  rw [iter_succ, b1152_0]
  refine Tst (J5 g1 g6 mb hi' e1) ?_
  refine hS x _ _ tO tO (fun h1 K1 => ?_)
  refine Sst (J4 g4 g5 g6 @mxn_nat) ?_
  refine ih (i + 1) _ _ _ (a + x.cnt) (max dp x.dep) (drop_next hr) tO tO tO tO tO (K0.trans K1) ?_ ?_ ?_ ?_ (fun t1 h1 K2 u1 u4 u5 => hk t1 h1 K2 u1 ?_ ?_)
  ·exact Ssc g1
  ·exact Ssc0
  ·exact Ssc @ifmax
  ·exact Ssc0
  ·rw [u4, cntL, Nat.add_assoc]
  ·rw [u5, depL, Nat.max_assoc]
theorem loop1152_1 {D : Nat} (hS : SizeR E L n D) (hL9 : L ≤ 9223372036854775807) {b1 : K} {v0 v1 v2 v3 v4 v5 : V} {lb : Bool} {lc : Nat} {l : List Va} {h0 : Hp} (nb : b1.num < (nxt h0).num) (m1 : blk h0 b1 = .cells [v0, v1, v2, v3, v4, v5, slR lb lc (rowsV l) l.length]) (hl : bulkL l ≤ L) :
  ∀ (r : List Va) (i M : Nat) (t : T V) (h : Hp) (a dp : Nat), l.drop i = r → i + r.length = l.length → r.length + 1 ≤ M → depL r ≤ D → bulkL r ≤ L → a + cntL r ≤ 9223372036854775807 → Keeps h0 h →
  T.get und (K.of 1) t = .ptr b1 0 → T.get und (K.of 4) t = .int .i64 (.ofNat a) → T.get und (K.of 5) t = .int .i64 (.ofNat dp) → T.get und (K.of 9) t = .int .i64 (.ofNat i) →
  (∀ t1 h1, Keeps h0 h1 → T.get und (K.of 1) t1 = .ptr b1 0 → T.get und (K.of 4) t1 = .int .i64 (.ofNat (a + cntL r)) → T.get und (K.of 5) t1 = .int .i64 (.ofNat (max dp (depL r))) → k (.exit 2) t1 d h1 = true) →
  iter (exec (call E (L + 1) n) (L + 1) fi b1152_1) M t d h k = true := by
 intro r
 have hll := len_bulk l
 induction r with
 | nil =>
  intro i M t h a dp hr hi hM hd hb ha K0 g1 g4 g5 g6 hk
  obtain ⟨M, rfl⟩ := pM M
  have mb : blk h b1 = _ := (K0.old b1 nb).trans m1
  have hi' : (i < l.length) = False := eq_false (by simp at hi; omega)
  rw [iter_succ, b1152_1]
  refine Tst (J4 g1 g6 mb hi') ?_
  refine hk _ _ K0 ?_ ?_ ?_ <;> simp -implicitDefEqProofs (disch := exact tD) only [↓sD, sB, ↓reduceIte, Nat.reduceEqDiff, reduceCtorEq, Nat.reduceLT, Nat.reduceMul, Nat.reduceAdd, g1, g4, g5, cntL, depL, Nat.add_zero, Nat.max_zero]
 | cons x r ih =>
  intro i M t h a dp hr hi hM hd hb ha K0 g1 g4 g5 g6 hk
  obtain ⟨M, rfl⟩ := pM M
  simp only [List.length_cons] at hi hM
  simp only [depL, bulkL, cntL] at hd hb ha
  have mb : blk h b1 = _ := (K0.old b1 nb).trans m1
  have hi' : (i < l.length) = True := eT
  have e1 := fun c h => load7 (c := c) (h := h) (at_drop hr)
  rw [iter_succ, b1152_1]
  refine Tst (J5 g1 g6 mb hi' e1) ?_
  refine hS x _ _ tO tO (fun h1 K1 => ?_)
  refine Sst (J4 g4 g5 g6 @mxn_nat) ?_
  refine ih (i + 1) _ _ _ (a + x.cnt) (max dp x.dep) (drop_next hr) tO tO tO tO tO (K0.trans K1) ?_ ?_ ?_ ?_ (fun t1 h1 K2 u1 u4 u5 => hk t1 h1 K2 u1 ?_ ?_)
  ·exact Ssc g1
  ·exact Ssc0
  ·exact Ssc @ifmax
  ·exact Ssc0
  ·rw [u4, cntL, Nat.add_assoc]
  ·rw [u5, depL, Nat.max_assoc]
theorem sizeR_ok (hF : Hns E) (hL9 : L ≤ 9223372036854775800) : ∀ (D n : Nat), SizeR E L (n + D + 1) D := by
 intro D
 induction D with
 | zero =>
  intro n x y h hd
  cases x
  simp only [Va.dep] at hd
  omega
 | succ D ih =>
  intro n x h kc hd hb hk
  obtain ⟨kind, nn, neg, db, dc, dd, s, lb, lc, l, mb, mc, m⟩ := x
  simp only [Va.dep] at hd
  simp only [Va.bulk] at hb
  rw [Va.cnt, Va.dep] at hk
  have hl := len_bulk l
  have hm := len_bulk m
  have cl := cntL_le l
  have cm := cntL_le m
  rw [show n + (D + 1) + 1 = (n + D + 1) + 1 by omega]
  simp only [Va.cells]
  rw [call_fn hF.f1152, c1152, r1152, p1152_0, p1152_1, p1152_2, p1152_3, p1152_4, p1152_5]
  have K0 : Keeps h (h.upd (nxt h) (.cells [.int .i64 kind, .int .i64 nn, .bool neg, slR db dc (intsZ dd) dd.length, .str s, slR lb lc (rowsV l) l.length, slR mb mc (rowsV m) m.length])).bump := kO
  refine Sst @exec_loop ?_
  refine loop1152_0 (ih n) tO (b1 := nxt h) (v0 := .int .i64 kind) (v1 := .int .i64 nn) (v2 := .bool neg) (v3 := slR db dc (intsZ dd) dd.length) (v4 := .str s) (v6 := slR mb mc (rowsV m) m.length) (lb := lb) (lc := lc) (l := l) (h0 := (h.upd (nxt h) (.cells [.int .i64 kind, .int .i64 nn, .bool neg, slR db dc (intsZ dd) dd.length, .str s, slR lb lc (rowsV l) l.length, slR mb mc (rowsV m) m.length])).bump) tN (Ssc0) tO l 0 _ _ _ 1 0 rfl tO tO tO tO tO (.refl _) ?_ ?_ ?_ ?_ (fun t1 h1 K1 u1 u4 u5 => ?_)
  ·exact Ssc0
  ·exact Ssc0
  ·exact Ssc0
  ·exact Ssc0
  refine Sst @exec_loop ?_
  refine loop1152_1 (ih n) tO (b1 := nxt h) (v0 := .int .i64 kind) (v1 := .int .i64 nn) (v2 := .bool neg) (v3 := slR db dc (intsZ dd) dd.length) (v4 := .str s) (v5 := slR lb lc (rowsV l) l.length) (lb := mb) (lc := mc) (l := m) (h0 := (h.upd (nxt h) (.cells [.int .i64 kind, .int .i64 nn, .bool neg, slR db dc (intsZ dd) dd.length, .str s, slR lb lc (rowsV l) l.length, slR mb mc (rowsV m) m.length])).bump) tN (Ssc0) tO m 0 _ _ _ (1 + cntL l) (max 0 (depL l)) rfl tO tO tO tO tO K1 ?_ ?_ ?_ ?_ (fun t2 h2 K2 w1 w4 w5 => ?_)
  ·exact Ssc u1
  ·exact Ssc u4
  ·exact Ssc u5
  ·exact Ssc0
  have dl := depL_le l
  have dm := depL_le m
  have hz : max 0 (depL l) = depL l := Nat.zero_max _
  rw [hz] at w5
  refine Sst (J2 w4 w5) ?_
  rw [Nat.add_comm (max (depL l) (depL m)) 1]
  exact hk _ (K0.trans K2)
theorem call1152 (hF : Hns E) (hL9 : L ≤ 9223372036854775800) {x : Va} {D : Nat} (hd : x.dep ≤ D) (hb : x.bulk ≤ L) (hn : D + 1 ≤ n) (hk : ∀ h1, Keeps h h1 → kc (.ret (.tup [.int .i64 (.ofNat x.cnt), .int .i64 (.ofNat x.dep)])) none h1 = true) :
  call E (L + 1) n (.fn 152) [.agg x.cells] none h kc = true := by
 obtain ⟨m, rfl⟩ : ∃ m, n = m + D + 1 := ⟨n - (D + 1), by omega⟩
 exact sizeR_ok hF hL9 D m x h kc hd hb hk
theorem loop1207 (hF : Hns E) (hL9 : L ≤ 9223372036854775807) {D : Nat} (hn : 2 * D + 4 ≤ n) {b : Bool} {cp : Nat} {s : List Va} (hs : s.length ≤ 9223372036854775807) {h0 : Hp} :
  ∀ (r : List Va) (x : Va) (i M : Nat) (t : T V) (h : Hp), s.drop i = x :: r → i + 1 + r.length = s.length → r.length + 1 ≤ M → x.dep ≤ D → x.bulk ≤ L → depL r ≤ D → bulkL r ≤ L → Keeps h0 h →
  T.get und (K.of 0) t = slR b cp (rowsV s) s.length → T.get und (K.of 3) t = .int .i64 (.ofNat (i + 1)) →
  (ris (x :: r) = true → ∀ t1 h1, Keeps h0 h1 → k (.exit 0) t1 d h1 = true) →
  (ris (x :: r) = false → ∀ t1 h1, Keeps h0 h1 → T.get und (K.of 2) t1 = .bool false → k .ret t1 d h1 = true) →
  iter (exec (call E (L + 3) n) (L + 3) fi b1207_0) M t d h k = true := by
 intro r
 induction r with
 | nil =>
  intro x i M t h hr hi hM hxd hxb hd hb K0 g0 g3 hk hf
  obtain ⟨M, rfl⟩ := pM M
  have hi' : (i + 1 < s.length) = False := eq_false (by simp at hi; omega)
  rw [iter_succ, b1207_0]
  refine Tst (J3 g0 g3 hi') ?_
  exact hk rfl _ _ K0
 | cons y r ih =>
  intro x i M t h hr hi hM hxd hxb hd hb K0 g0 g3 hk hf
  obtain ⟨M, rfl⟩ := pM M
  simp only [List.length_cons] at hi hM
  simp only [depL, bulkL] at hd hb
  have hi' : (i + 1 < s.length) = True := eT
  have e1 := fun c h => load7 (c := c) (h := h) (at_drop hr)
  have e2 := fun c h => load7 (c := c) (h := h) (at_drop (drop_next hr))
  have e3 : wrapI .i64 (Int.sub (.ofNat (i + 1)) (.ofNat 1)) = .ofNat i := wrap_dec (i := i + 1) tO
  rw [iter_succ, b1207_0]
  refine Tst (J7 g0 g3 hi' e3 e1 e2 @veq_cells) ?_
  refine call1095 hF hL9 hxd hxb tO hn (fun h1 K1 => ?_)
  rw [ris_cons] at hk hf
  cases hc : ltI (x.cmp y) (.ofNat 0)
  ·refine Sst hc ?_
   refine hf (by rw [hc]; rfl) _ _ (K0.trans K1) ?_
   exact Ssc0
  ·rw [hc, Bool.true_and] at hk hf
   refine Sst (J2 hc g3) ?_
   refine ih y (i + 1) _ _ _ (drop_next hr) tO tO tO tO tO tO (K0.trans K1) ?_ ?_ hk hf
   ·exact Ssc g0
   ·exact Ssc0
theorem call1207 (hF : Hns E) (hL9 : L ≤ 9223372036854775800) {D : Nat} (hn : 2 * D + 4 ≤ n) {b : Bool} {cp : Nat} {s : List Va} (hs : s.length ≤ L) (hd : depL s ≤ D) (hb : bulkL s ≤ L)
  (hk : ∀ h1, Keeps h h1 → kc (.ret (.bool (ris s))) none h1 = true) :
  call E (L + 3) (n + 1) (.fn 207) [slR b cp (rowsV s) s.length] none h kc = true := by
 rw [call_fn hF.f1207, c1207, r1207, p1207_0, p1207_1, p1207_2]
 cases s with
 | nil =>
  simp -implicitDefEqProofs (disch := exact tD) only [↓sD, sB, ↓reduceIte, Nat.reduceEqDiff, reduceCtorEq, Nat.reduceLT, Nat.reduceMul, Nat.reduceAdd, exec_loop, iter_succ, b1207_0, ltI_ofNat, List.length_nil, Nat.not_lt_zero, decide_false]
  exact hk h (.refl h)
 | cons x r =>
  simp only [depL, bulkL] at hd hb
  refine Sst @exec_loop ?_
  refine loop1207 hF tO hn (b := b) (cp := cp) (s := x :: r) tO r x 0 _ _ _ rfl (by simp; omega) (by simp at hs; omega) tO tO tO tO (.refl h) ?_ ?_ (fun hr t1 h1 K1 => ?_) (fun hr t1 h1 K1 g2 => ?_)
  ·exact Ssc0
  ·exact Ssc0
  ·have hk1 := hk h1 K1
   rw [hr] at hk1
   refine Sst0 ?_
   exact hk1
  ·have hk1 := hk h1 K1
   rw [hr] at hk1
   refine Sst g2 ?_
   exact hk1
end
end Go.AJ
/- The reference: what is a value. -/
namespace Go.AJ
open Go
set_option maxRecDepth 100000
def leafV : Va → Bool
 | .mk kind n neg _ _ d s _ _ _ _ _ _ =>
  if beqI kind (.ofNat 1) = true then (beqI n (.ofNat 0) || beqI n (.ofNat 1)) && !(neg || decide (0 < d.length)) && beqL s []
  else if beqI kind (.ofNat 2) = true then beqI n (.ofNat 0) && numOK neg d && beqL s []
  else if beqI kind (.ofNat 3) = true then beqI n (.ofNat 0) && !(neg || decide (0 < d.length)) && printS s
  else if beqI kind (.ofNat 4) = true then beqI n (.ofNat 0) && !(neg || decide (0 < d.length)) && namedS s
  else if (beqI kind (.ofNat 5) || beqI kind (.ofNat 6)) = true then beqI n (.ofNat 0) && !(neg || decide (0 < d.length)) && beqL s []
  else false
def restV : Va → Bool
 | .mk kind _ _ _ _ _ _ _ _ l _ _ m =>
  if (!beqI kind (.ofNat 5) && !beqI kind (.ofNat 6)) = true then decide (l.length = 0) && decide (m.length = 0)
  else !decide (4000 < l.length) && !(beqI kind (.ofNat 5) && !decide (m.length = 0)) && !(beqI kind (.ofNat 6) && !decide (m.length = l.length)) && goodL l && goodL m && ris l
theorem good_eq : ∀ x : Va, x.good = (leafV x && restV x)
 | .mk kind n neg db dc d s lb lc l mb mc m => by
  have z : decide (l.length + m.length = 0) = (decide (l.length = 0) && decide (m.length = 0)) := by
   by_cases h1 : l.length = 0 <;> by_cases h2 : m.length = 0 <;> simp [h1, h2]
  have zz : (decide (l.length = 0) && decide (m.length = 0) && goodL l && goodL m) = (decide (l.length = 0) && decide (m.length = 0)) := by
   cases l <;> cases m <;> simp [goodL]
  have z3 : (!decide (0 < l.length + m.length)) = (decide (l.length = 0) && decide (m.length = 0)) := by
   by_cases h1 : l.length = 0 <;> by_cases h2 : m.length = 0 <;> simp [h1, h2] <;> omega
  rw [Va.good, formedV, leafV, restV, z, z3]
  by_cases k1 : beqI kind (.ofNat 1) = true
  ·have e := beqI_iff.1 k1; subst e
   simp only [show beqI (Int.ofNat 1) (.ofNat 1) = true from rfl, show beqI (Int.ofNat 1) (.ofNat 5) = false from rfl, show beqI (Int.ofNat 1) (.ofNat 6) = false from rfl, if_true, Bool.not_false, Bool.and_self]
   generalize ((beqI n (.ofNat 0) || beqI n (.ofNat 1)) && !(neg || decide (0 < d.length)) && beqL s []) = A at *
   cases A <;> simp only [Bool.false_and, Bool.true_and, zz]
  rw [if_neg k1, if_neg k1]
  by_cases k2 : beqI kind (.ofNat 2) = true
  ·have e := beqI_iff.1 k2; subst e
   simp only [show beqI (Int.ofNat 2) (.ofNat 2) = true from rfl, show beqI (Int.ofNat 2) (.ofNat 5) = false from rfl, show beqI (Int.ofNat 2) (.ofNat 6) = false from rfl, if_true, Bool.not_false, Bool.and_self]
   rw [Bool.and_comm (numOK neg d)]
   generalize (beqI n (.ofNat 0) && numOK neg d && beqL s []) = A at *
   cases A <;> simp only [Bool.false_and, Bool.true_and, zz]
  rw [if_neg k2, if_neg k2]
  by_cases k3 : beqI kind (.ofNat 3) = true
  ·have e := beqI_iff.1 k3; subst e
   simp only [show beqI (Int.ofNat 3) (.ofNat 3) = true from rfl, show beqI (Int.ofNat 3) (.ofNat 5) = false from rfl, show beqI (Int.ofNat 3) (.ofNat 6) = false from rfl, if_true, Bool.not_false, Bool.and_self]
   generalize (beqI n (.ofNat 0) && !(neg || decide (0 < d.length))) = A at *
   cases A <;> cases printS s <;> simp only [Bool.false_and, Bool.true_and, Bool.and_false, Bool.and_true, zz]
  rw [if_neg k3, if_neg k3]
  by_cases k4 : beqI kind (.ofNat 4) = true
  ·have e := beqI_iff.1 k4; subst e
   simp only [show beqI (Int.ofNat 4) (.ofNat 4) = true from rfl, show beqI (Int.ofNat 4) (.ofNat 5) = false from rfl, show beqI (Int.ofNat 4) (.ofNat 6) = false from rfl, if_true, Bool.not_false, Bool.and_self]
   generalize (beqI n (.ofNat 0) && !(neg || decide (0 < d.length))) = A at *
   cases A <;> cases namedS s <;> simp only [Bool.false_and, Bool.true_and, Bool.and_false, Bool.and_true, zz]
  rw [if_neg k4, if_neg k4]
  by_cases k5 : beqI kind (.ofNat 5) = true
  ·have e := beqI_iff.1 k5; subst e
   simp only [show beqI (Int.ofNat 5) (.ofNat 5) = true from rfl, show beqI (Int.ofNat 5) (.ofNat 6) = false from rfl, if_true, Bool.not_true, Bool.false_and, Bool.true_or, Bool.true_and, Bool.not_false, Bool.and_true, Bool.false_eq_true, if_false, Bool.not_not, risingV]
   generalize (beqI n (.ofNat 0) && !(neg || decide (0 < d.length)) && beqL s []) = A at *
   cases A <;> cases ris l <;> cases goodL l <;> cases goodL m <;> simp
  rw [if_neg k5]
  have f5 : beqI kind (.ofNat 5) = false := by simpa using k5
  by_cases k6 : beqI kind (.ofNat 6) = true
  ·have e := beqI_iff.1 k6; subst e
   simp only [show beqI (Int.ofNat 6) (.ofNat 6) = true from rfl, show beqI (Int.ofNat 6) (.ofNat 5) = false from rfl, if_true, Bool.not_true, Bool.and_false, Bool.or_true, Bool.true_and, Bool.not_false, Bool.and_true, Bool.false_and, Bool.false_eq_true, if_false, Bool.not_not, risingV]
   generalize (beqI n (.ofNat 0) && !(neg || decide (0 < d.length)) && beqL s []) = A at *
   cases A <;> cases ris l <;> cases goodL l <;> cases goodL m <;> simp
  ·have f6 : beqI kind (.ofNat 6) = false := by simpa using k6
   rw [if_neg k6, f5, f6]
   simp
end Go.AJ
/- The reference: forms; what is a value. -/
namespace Go.AJ
open Go
set_option maxRecDepth 100000
section
variable {E : Env} {L n : Nat} {h : Hp} {kc : KC} {t : T V} {d : Dc} {k : KE} {fi : FI} {c : KV} {C : CallF}
theorem call1206 (hF : Hns E) (hL9 : L ≤ 9223372036854775800) : ∀ {x : Va} (hb : x.bulk ≤ L) (hk : ∀ h1, Keeps h h1 → kc (.ret (.bool (leafV x))) none h1 = true),
  call E (L + 1) (n + 2) (.fn 206) [.agg x.cells] none h kc = true
 | .mk kind n0 neg db dc dd s lb lc l mb mc m, hb, hk => by
  simp only [Va.bulk] at hb
  simp only [Va.cells]
  rw [call_fn hF.f1206, c1206, r1206, p1206_0, p1206_1, p1206_2]
  have K0 : Keeps h (h.upd (nxt h) (.cells [.int .i64 kind, .int .i64 n0, .bool neg, slR db dc (intsZ dd) dd.length, .str s, slR lb lc (rowsV l) l.length, slR mb mc (rowsV m) m.length])).bump := kO
  have fin : ∀ {b : Bool} {h1 : Hp}, Keeps (h.upd (nxt h) (.cells [.int .i64 kind, .int .i64 n0, .bool neg, slR db dc (intsZ dd) dd.length, .str s, slR lb lc (rowsV l) l.length, slR mb mc (rowsV m) m.length])).bump h1 → leafV (.mk kind n0 neg db dc dd s lb lc l mb mc m) = b → kc (.ret (.bool b)) none h1 = true := fun K e => by rw [← e]; exact hk _ (K0.trans K)
  have kb : ∀ {h1 : Hp}, Keeps (h.upd (nxt h) (.cells [.int .i64 kind, .int .i64 n0, .bool neg, slR db dc (intsZ dd) dd.length, .str s, slR lb lc (rowsV l) l.length, slR mb mc (rowsV m) m.length])).bump h1 → blk h1 (nxt h) = .cells [.int .i64 kind, .int .i64 n0, .bool neg, slR db dc (intsZ dd) dd.length, .str s, slR lb lc (rowsV l) l.length, slR mb mc (rowsV m) m.length] := fun K => by
   rw [K.old (nxt h) tN]
   exact Ssc0
  cases k1 : beqI kind (.ofNat 1)
  case true =>
   have hv := show leafV (.mk kind n0 neg db dc dd s lb lc l mb mc m) = _ by rw [leafV, if_pos k1]
   cases a : beqI n0 (.ofNat 0)
   ·cases b : beqI n0 (.ofNat 1)
    ·refine Sst (J3 k1 a b) ?_
     exact fin (.refl _) (by rw [hv, a, b]; simp)
    ·refine Sst (J3 k1 a b) ?_
     refine call1309 hF (fun h1 K1 => ?_)
     have m1 := kb K1
     cases hN : (!(neg || decide (0 < dd.length)))
     ·refine Sst0 ?_
      exact fin K1 (by rw [hv, a, b, hN]; simp)
     ·refine Sst m1 ?_
      exact fin K1 (by rw [hv, a, b, hN]; simp)
   ·refine Sst (J2 k1 a) ?_
    refine call1309 hF (fun h1 K1 => ?_)
    have m1 := kb K1
    cases hN : (!(neg || decide (0 < dd.length)))
    ·refine Sst0 ?_
     exact fin K1 (by rw [hv, a, hN]; simp)
    ·refine Sst m1 ?_
     exact fin K1 (by rw [hv, a, hN]; simp)
  cases k2 : beqI kind (.ofNat 2)
  case true =>
   have hv := show leafV (.mk kind n0 neg db dc dd s lb lc l mb mc m) = _ by rw [leafV, if_neg (by rw [k1]; simp), if_pos k2]
   cases a : beqI n0 (.ofNat 0)
   ·refine Sst (J3 k1 k2 a) ?_
    exact fin (.refl _) (by rw [hv, a]; simp)
   ·refine Sst (J3 k1 k2 a) ?_
    refine call1310 hF tO tO (fun h1 K1 => ?_)
    have m1 := kb K1
    cases hN : numOK neg dd
    ·refine Sst0 ?_
     exact fin K1 (by rw [hv, a, hN]; simp)
    ·refine Sst m1 ?_
     exact fin K1 (by rw [hv, a, hN]; simp)
  cases k3 : beqI kind (.ofNat 3)
  case true =>
   have hv := show leafV (.mk kind n0 neg db dc dd s lb lc l mb mc m) = _ by rw [leafV, if_neg (by rw [k1]; simp), if_neg (by rw [k2]; simp), if_pos k3]
   cases a : beqI n0 (.ofNat 0)
   ·refine Sst (J4 k1 k2 k3 a) ?_
    exact fin (.refl _) (by rw [hv, a]; simp)
   ·refine Sst (J4 k1 k2 k3 a) ?_
    refine call1309 hF (fun h1 K1 => ?_)
    have m1 := kb K1
    cases hN : (!(neg || decide (0 < dd.length)))
    ·refine Sst0 ?_
     exact fin K1 (by rw [hv, a, hN]; simp)
    ·refine Sst m1 ?_
     refine call1311 hF tO tO ?_
     refine Sst0 ?_
     exact fin K1 (by rw [hv, a, hN]; simp)
  cases k4 : beqI kind (.ofNat 4)
  case true =>
   have hv := show leafV (.mk kind n0 neg db dc dd s lb lc l mb mc m) = _ by rw [leafV, if_neg (by rw [k1]; simp), if_neg (by rw [k2]; simp), if_neg (by rw [k3]; simp), if_pos k4]
   cases a : beqI n0 (.ofNat 0)
   ·refine Sst (J5 k1 k2 k3 k4 a) ?_
    exact fin (.refl _) (by rw [hv, a]; simp)
   ·refine Sst (J5 k1 k2 k3 k4 a) ?_
    refine call1309 hF (fun h1 K1 => ?_)
    have m1 := kb K1
    cases hN : (!(neg || decide (0 < dd.length)))
    ·refine Sst0 ?_
     exact fin K1 (by rw [hv, a, hN]; simp)
    ·refine Sst m1 ?_
     refine call1312 hF tO tO ?_
     refine Sst0 ?_
     exact fin K1 (by rw [hv, a, hN]; simp)
  cases k5 : beqI kind (.ofNat 5)
  case true =>
   have hv := show leafV (.mk kind n0 neg db dc dd s lb lc l mb mc m) = _ by rw [leafV, if_neg (by rw [k1]; simp), if_neg (by rw [k2]; simp), if_neg (by rw [k3]; simp), if_neg (by rw [k4]; simp), if_pos (by rw [k5]; rfl)]
   cases a : beqI n0 (.ofNat 0)
   ·refine Sst (J6 k1 k2 k3 k4 k5 a) ?_
    exact fin (.refl _) (by rw [hv, a]; simp)
   ·refine Sst (J6 k1 k2 k3 k4 k5 a) ?_
    refine call1309 hF (fun h1 K1 => ?_)
    have m1 := kb K1
    cases hN : (!(neg || decide (0 < dd.length)))
    ·refine Sst0 ?_
     exact fin K1 (by rw [hv, a, hN]; simp)
    ·refine Sst m1 ?_
     exact fin K1 (by rw [hv, a, hN]; simp)
  cases k6 : beqI kind (.ofNat 6)
  case true =>
   have hv := show leafV (.mk kind n0 neg db dc dd s lb lc l mb mc m) = _ by rw [leafV, if_neg (by rw [k1]; simp), if_neg (by rw [k2]; simp), if_neg (by rw [k3]; simp), if_neg (by rw [k4]; simp), if_pos (by rw [k6, Bool.or_true])]
   cases a : beqI n0 (.ofNat 0)
   ·refine Sst (J7 k1 k2 k3 k4 k5 k6 a) ?_
    exact fin (.refl _) (by rw [hv, a]; simp)
   ·refine Sst (J7 k1 k2 k3 k4 k5 k6 a) ?_
    refine call1309 hF (fun h1 K1 => ?_)
    have m1 := kb K1
    cases hN : (!(neg || decide (0 < dd.length)))
    ·refine Sst0 ?_
     exact fin K1 (by rw [hv, a, hN]; simp)
    ·refine Sst m1 ?_
     exact fin K1 (by rw [hv, a, hN]; simp)
  refine Sst (J6 k1 k2 k3 k4 k5 k6) ?_
  exact fin (.refl _) (by rw [leafV, if_neg (by rw [k1]; simp), if_neg (by rw [k2]; simp), if_neg (by rw [k3]; simp), if_neg (by rw [k4]; simp), if_neg (by rw [k5, k6]; simp)])
end
end Go.AJ
