/- SimulSteps. -/
import Derived.Test.YtflhojkjjlfegaaGreatDoorL28f
namespace Go.AJ
open Go Go.Proofs

theorem wrap_sub_u64 {a b : Nat} (hb : b ≤ 18446744073709551616) : wrapI .u64 (Int.sub (.ofNat a) (.ofNat b)) = .ofNat ((a + 18446744073709551616 - b) % 18446744073709551616) := by
  rw [wrapI_eq]
  have h1 : IntKind.u64.wrap (Int.sub (.ofNat a) (.ofNat b)) = ((a : Int) - b) % 18446744073709551616 := by
    simp [IntKind.wrap, IntKind.signed, IntKind.bits]
    rfl
  rw [h1, Int.ofNat_eq_natCast]
  omega

theorem back_eq (x A C I M s : Nat) (hx : x < M) (hi : A * I % M = 1 % M) (hs : s = ((x * A + C) % M + M - C) % M) (hC : C ≤ M) : s * I % M = x := by
  have h1 : ((x * A + C) % M + M - C) % M = x * A % M := by
    have e1 : ((x * A + C) % M + (M - C)) % M = (x * A + C + (M - C)) % M := by rw [Nat.add_mod, Nat.mod_mod, ← Nat.add_mod]
    rw [Nat.add_sub_assoc hC, e1, Nat.add_assoc, Nat.add_sub_cancel' hC, Nat.add_mod_right]
  rw [hs, h1, Nat.mul_mod, Nat.mod_mod, ← Nat.mul_mod, Nat.mul_assoc, Nat.mul_mod, hi, ← Nat.mul_mod, Nat.mul_one]
  exact Nat.mod_eq_of_lt hx

theorem inv_ok : 6364136223846793005 * 13877824140714322085 % 18446744073709551616 = 1 % 18446744073709551616 := by decide +kernel

theorem itf_one (f : Nat → Nat) (x : Nat) : itf f 1 x = f x := rfl
theorem app_mk (a c x : Nat) : app (a, c) x = (x * a + c) % 18446744073709551616 := rfl
theorem skg_one (x : Nat) : skg 1 x = (x * 6364136223846793005 + 1442695040888963407) % 18446744073709551616 := by
  unfold skg
  rw [itf_one, app_mk]

section
variable {L n : Nat} {h : Hp} {kc : KC} {t : T V} {d : Dc} {k : KE} {fi : FI}

theorem call7' : call EzC L (n + 1) (.fn 7) [] none h kc = kc (.ret (.bool true)) none h := by
  rw [call_prim fn7, g7_eq]

theorem law5_a {x : Nat} {a b : Int} (ha : ltI a (.ofNat 0) = true) : call EzC (L + 1) (n + 2) (.fn 5) [.int .u64 (.ofNat x), .int .i64 a, .int .i64 b] none h kc = kc (.ret (.bool true)) none h := by
  rw [call_fn fn5, c5, r5, p5_0, p5_1, p5_2, p5_3, p5_4, p5_5, p5_6, p5_7, p5_8, p5_9, p5_10, p5_11]
  simp -implicitDefEqProofs only [↓normK_eq, ↓execK_eq, ↓opsK_eq, callK_eq, isT_bool, isF_bool, ↓bodyK_eq, ↓ops_all, putK_some, ↓exec_skip, ↓exec_reg, ↓exec_seq, ↓exec_cond, ↓exec_ret, ↓iterK_normal, ↓iterK_ret, ↓opsRun_nil, kv_eq, ev_t, ev_c, evs_nil, evs_cons, get_ins, op_mv, op_ibin, op_not, op_ext, op_call, callEnd_ret, beqI_self, ib_eql_i64, ib_lss_i64, not_bool, ext_tup0, ext_tup1, putArgs_nil, putArgs_cons, fnEnd_ret, res_nil, res_t, one_one, eq_self, Nat.reduceEqDiff, reduceCtorEq, Bool.not_true, Bool.not_false, Bool.false_eq_true, ↓reduceIte, Nat.reduceAdd, Nat.zero_add, call7', call12_bad ha, ha]

theorem law5_b {x y : Nat} {a b : Int} {h1 : Hp} (ha : ltI a (.ofNat 0) = false) (hb : ltI b (.ofNat 0) = true)
    (e1 : ∀ kc, call EzC (L + 1) (n + 2) (.fn 12) [.int .u64 (.ofNat x), .int .i64 a] none h kc = kc (.ret (.tup [.int .u64 (.ofNat y), .int .i64 (.ofNat 0)])) none h1) :
    call EzC (L + 1) (n + 3) (.fn 5) [.int .u64 (.ofNat x), .int .i64 a, .int .i64 b] none h kc = kc (.ret (.bool true)) none h1 := by
  rw [call_fn fn5, c5, r5, p5_0, p5_1, p5_2, p5_3, p5_4, p5_5, p5_6, p5_7, p5_8, p5_9, p5_10, p5_11]
  simp -implicitDefEqProofs only [↓normK_eq, ↓execK_eq, ↓opsK_eq, callK_eq, isT_bool, isF_bool, ↓bodyK_eq, ↓ops_all, putK_some, ↓exec_skip, ↓exec_reg, ↓exec_seq, ↓exec_cond, ↓exec_ret, ↓iterK_normal, ↓iterK_ret, ↓opsRun_nil, kv_eq, ev_t, ev_c, evs_nil, evs_cons, get_ins, op_mv, op_ibin, op_not, op_ext, op_call, callEnd_ret, beqI_self, ib_eql_i64, ib_neq_i64, ib_lss_i64, not_bool, ext_tup0, ext_tup1, putArgs_nil, putArgs_cons, fnEnd_ret, res_nil, res_t, one_one, eq_self, Nat.reduceEqDiff, reduceCtorEq, Bool.not_true, Bool.not_false, Bool.false_eq_true, ↓reduceIte, Nat.reduceAdd, Nat.zero_add, call7', e1, call12_bad hb, ha, hb]

theorem law5_c {x y z : Nat} {a b : Int} {h1 h2 : Hp} (ha : ltI a (.ofNat 0) = false) (hb : ltI b (.ofNat 0) = false) (hbig : ltI a (.ofNat 4611686018427387904) = false ∨ ltI b (.ofNat 4611686018427387904) = false)
    (e1 : ∀ kc, call EzC (L + 1) (n + 2) (.fn 12) [.int .u64 (.ofNat x), .int .i64 a] none h kc = kc (.ret (.tup [.int .u64 (.ofNat y), .int .i64 (.ofNat 0)])) none h1)
    (e2 : ∀ kc, call EzC (L + 1) (n + 2) (.fn 12) [.int .u64 (.ofNat y), .int .i64 b] none h1 kc = kc (.ret (.tup [.int .u64 (.ofNat z), .int .i64 (.ofNat 0)])) none h2) :
    call EzC (L + 1) (n + 3) (.fn 5) [.int .u64 (.ofNat x), .int .i64 a, .int .i64 b] none h kc = kc (.ret (.bool true)) none h2 := by
  rw [call_fn fn5, c5, r5, p5_0, p5_1, p5_2, p5_3, p5_4, p5_5, p5_6, p5_7, p5_8, p5_9, p5_10, p5_11]
  by_cases g1 : ltI a (.ofNat 4611686018427387904) = false
  · simp -implicitDefEqProofs only [↓normK_eq, ↓execK_eq, ↓opsK_eq, callK_eq, isT_bool, isF_bool, ↓bodyK_eq, ↓ops_all, ↓ops_some, putK_some, ↓exec_skip, ↓exec_reg, ↓exec_seq, ↓exec_cond, ↓exec_ret, ↓iterK_normal, ↓iterK_ret, ↓opsRun_nil, wantB_bool, kv_eq, ev_t, ev_c, evs_nil, evs_cons, get_ins, op_mv, op_pick, op_ibin, op_not, op_ext, op_call, callEnd_ret, pick_bool, beqI_self, ib_eql_i64, ib_neq_i64, ib_lss_i64, ib_geq_i64, not_bool, ext_tup0, ext_tup1, putArgs_nil, putArgs_cons, fnEnd_ret, res_nil, res_t, one_one, eq_self, Nat.reduceEqDiff, reduceCtorEq, Bool.not_true, Bool.not_false, Bool.false_eq_true, Bool.true_beq, ↓reduceIte, Nat.reduceAdd, Nat.zero_add, call7', e1, e2, ha, hb, g1]
  · have g2 := hbig.resolve_left g1
    have g1 : ltI a (.ofNat 4611686018427387904) = true := by simpa using g1
    simp -implicitDefEqProofs only [↓normK_eq, ↓execK_eq, ↓opsK_eq, callK_eq, isT_bool, isF_bool, ↓bodyK_eq, ↓ops_all, ↓ops_some, putK_some, ↓exec_skip, ↓exec_reg, ↓exec_seq, ↓exec_cond, ↓exec_ret, ↓iterK_normal, ↓iterK_ret, ↓opsRun_nil, wantB_bool, kv_eq, ev_t, ev_c, evs_nil, evs_cons, get_ins, op_mv, op_pick, op_ibin, op_not, op_ext, op_call, callEnd_ret, pick_bool, beqI_self, ib_eql_i64, ib_neq_i64, ib_lss_i64, ib_geq_i64, not_bool, ext_tup0, ext_tup1, putArgs_nil, putArgs_cons, fnEnd_ret, res_nil, res_t, one_one, eq_self, Nat.reduceEqDiff, reduceCtorEq, Bool.not_true, Bool.not_false, Bool.false_eq_true, beq_self_eq_true, ↓reduceIte, Nat.reduceAdd, Nat.zero_add, call7', e1, e2, ha, hb, g1, g2]

set_option maxRecDepth 100000 in
theorem law5_d {x y z w1 s : Nat} {a b s1 : Int} {h1 h2 h3 h4 : Hp} (ha : ltI a (.ofNat 0) = false) (hb : ltI b (.ofNat 0) = false) (g1 : ltI a (.ofNat 4611686018427387904) = true) (g2 : ltI b (.ofNat 4611686018427387904) = true)
    (e1 : ∀ kc, call EzC (L + 8) (n + 2) (.fn 12) [.int .u64 (.ofNat x), .int .i64 a] none h kc = kc (.ret (.tup [.int .u64 (.ofNat y), .int .i64 (.ofNat 0)])) none h1)
    (e2 : ∀ kc, call EzC (L + 8) (n + 2) (.fn 12) [.int .u64 (.ofNat y), .int .i64 b] none h1 kc = kc (.ret (.tup [.int .u64 (.ofNat z), .int .i64 (.ofNat 0)])) none h2)
    (es : wrapI .i64 (Int.add a b) = s1)
    (e3 : ∀ kc, call EzC (L + 8) (n + 2) (.fn 12) [.int .u64 (.ofNat x), .int .i64 s1] none h2 kc = kc (.ret (.tup [.int .u64 (.ofNat z), .int .i64 (.ofNat 0)])) none h3)
    (e4 : ∀ kc, call EzC (L + 8) (n + 2) (.fn 12) [.int .u64 (.ofNat x), .int .i64 (.ofNat 1)] none h3 kc = kc (.ret (.tup [.int .u64 (.ofNat w1), .int .i64 (.ofNat 0)])) none h4)
    (e5 : wrapI .u64 (Int.sub (.ofNat w1) (.ofNat 1442695040888963407)) = .ofNat s) (e6 : s * 13877824140714322085 % 18446744073709551616 = x) :
    call EzC (L + 8) (n + 3) (.fn 5) [.int .u64 (.ofNat x), .int .i64 a, .int .i64 b] none h kc = kc (.ret (.bool true)) none h4 := by
  rw [call_fn fn5, c5, r5, p5_0, p5_1, p5_2, p5_3, p5_4, p5_5, p5_6, p5_7, p5_8, p5_9, p5_10, p5_11]
  simp -implicitDefEqProofs only [↓normK_eq, ↓execK_eq, ↓opsK_eq, callK_eq, isT_bool, isF_bool, ↓bodyK_eq, ↓ops_all, ↓ops_some, putK_some, ↓exec_skip, ↓exec_reg, ↓exec_seq, ↓exec_cond, ↓exec_ret, ↓iterK_normal, ↓opsRun_nil, wantB_bool, kv_eq, ev_t, ev_c, evs_nil, evs_cons, get_ins, op_mv, op_pick, op_ibin, op_not, op_ext, op_call, callEnd_ret, pick_bool, beqI_self, wrap_u64, ib_add_i64, ib_sub_u64, ib_mul_u64, ib_eql_i64, ib_eql_u64, ib_neq_i64, ib_lss_i64, ib_geq_i64, mul_ofNat, not_bool, ext_tup0, ext_tup1, putArgs_nil, putArgs_cons, fnEnd_ret, res_nil, res_t, one_one, eq_self, Nat.reduceEqDiff, reduceCtorEq, Bool.not_true, Bool.not_false, Bool.false_eq_true, beq_self_eq_true, ↓reduceIte, Nat.reduceAdd, Nat.zero_add, call7', call18, e1, e2, e3, e4, es, e5, e6, ha, hb, g1, g2]

end

theorem law5 {x : Nat} {a b : Int} {h : Hp} (hx : x < 18446744073709551616) (ha : a ≤ 9223372036854775807) (hb : b ≤ 9223372036854775807) : ∃ L n h', ∀ kc : KC, call EzC L n (.fn 5) [.int .u64 (.ofNat x), .int .i64 a, .int .i64 b] none h kc = kc (.ret (.bool true)) none h' := by
  by_cases h1 : ltI a (.ofNat 0) = true
  · exact ⟨1, 2, h, fun kc => law5_a (L := 0) (n := 0) h1⟩
  · have h1 : ltI a (.ofNat 0) = false := by simpa using h1
    have p1 : 0 ≤ a := by rw [ltI_eq] at h1; have := of_decide_eq_false h1; simp only [Int.ofNat_eq_natCast] at this; omega
    obtain ⟨A, rfl⟩ := Int.eq_ofNat_of_zero_le p1
    obtain ⟨k1, K1, e1⟩ := call12s (show A ≤ 9223372036854775807 by omega) hx h
    have hy := skg_lt A x hx
    by_cases h2 : ltI b (.ofNat 0) = true
    · exact ⟨A + 1, 3, k1, fun kc => law5_b (L := A) (n := 0) h1 h2 (fun kc => e1 (Nat.le_refl _))⟩
    · have h2 : ltI b (.ofNat 0) = false := by simpa using h2
      have p2 : 0 ≤ b := by rw [ltI_eq] at h2; have := of_decide_eq_false h2; simp only [Int.ofNat_eq_natCast] at this; omega
      obtain ⟨B, rfl⟩ := Int.eq_ofNat_of_zero_le p2
      obtain ⟨k2, K2, e2⟩ := call12s (show B ≤ 9223372036854775807 by omega) hy k1
      by_cases hbig : ltI (.ofNat A) (.ofNat 4611686018427387904) = false ∨ ltI (.ofNat B) (.ofNat 4611686018427387904) = false
      · exact ⟨A + B + 1, 3, k2, fun kc => law5_c (L := A + B) (n := 0) h1 h2 hbig (fun kc => e1 (by omega)) (fun kc => e2 (by omega))⟩
      · have g1 : ltI (.ofNat A) (.ofNat 4611686018427387904) = true := by
          cases hq : ltI (.ofNat A) (.ofNat 4611686018427387904) with
          | true => rfl
          | false => exact (hbig (.inl hq)).elim
        have g2 : ltI (.ofNat B) (.ofNat 4611686018427387904) = true := by
          cases hq : ltI (.ofNat B) (.ofNat 4611686018427387904) with
          | true => rfl
          | false => exact (hbig (.inr hq)).elim
        have q1 : A < 4611686018427387904 := by rw [ltI_ofNat] at g1; exact of_decide_eq_true g1
        have q2 : B < 4611686018427387904 := by rw [ltI_ofNat] at g2; exact of_decide_eq_true g2
        obtain ⟨k3, K3, e3⟩ := call12s (show A + B ≤ 9223372036854775807 by omega) hx k2
        obtain ⟨k4, K4, e4⟩ := call12s (show 1 ≤ 9223372036854775807 by omega) hx k3
        rw [skg_add] at e3
        rw [skg_one] at e4
        refine ⟨A + B + 1 + 8, 3, k4, fun kc => law5_d (L := A + B + 1) (n := 0) (s1 := .ofNat (A + B)) h1 h2 g1 g2 (fun kc => e1 (L := A + B + 1 + 7) (by omega)) (fun kc => e2 (L := A + B + 1 + 7) (by omega)) ?_
          (fun kc => e3 (L := A + B + 1 + 7) (by omega)) (fun kc => e4 (L := A + B + 1 + 7) (by omega)) (wrap_sub_u64 (by omega)) ?_⟩
        · rw [show Int.add (A : Int) (B : Int) = .ofNat (A + B) from rfl, wrap_i64 (by omega)]
        · exact back_eq x 6364136223846793005 1442695040888963407 13877824140714322085 18446744073709551616 _ hx inv_ok rfl (by omega)

/-- SimulSteps, in any memory and on any tape. -/
theorem steps_calls {g a b : Int} (hg : 0 ≤ g) (hg2 : g < 18446744073709551616) (ha : a ≤ 9223372036854775807) (hb : b ≤ 9223372036854775807) (w : World) : Calls Tryz.prog 5 #[.int .u64 g, .int .i64 a, .int .i64 b] w fun r w' => r = .returned (.bool true) ∧ w.heap.size ≤ w'.heap.size ∧ (∀ i, i < w.heap.size → w'.heap[i]? = w.heap[i]?) ∧ w'.os = w.os ∧ w'.tape = w.tape ∧ w'.output = w.output := by
  obtain ⟨x, rfl⟩ := Int.eq_ofNat_of_zero_le hg
  obtain ⟨L, n, h', hk⟩ := law5 (x := x) (a := a) (b := b) (h := .mk .l .h) (by omega) ha hb
  have hrun : call EzC L n (.fn 5) [.int .u64 (.ofNat x), .int .i64 a, .int .i64 b] none (.mk .l .h) (retK fun v _ => isT v) = true := by rw [hk]; rfl
  intro cs
  obtain ⟨e, w', fr, ⟨v, h', ρ', v', hg, rfl, hv, H, E⟩, hc⟩ := call_calls Xz_ok mixed EzC_ok L n hrun (HR.empty w) (.cons _ _ _ _ (.int _ _) (.cons _ _ _ _ (.int _ _) (.cons _ _ _ _ (.int _ _) .nil))) cs
  refine ⟨_, w', fr, ⟨?_, E.size, E.old, E.os, E.tape, E.out⟩, hc⟩
  cases hv <;> simp_all [isT]

end Go.AJ

