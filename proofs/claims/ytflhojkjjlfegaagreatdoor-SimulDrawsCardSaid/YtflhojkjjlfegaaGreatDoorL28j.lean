/- Seed; Skip of the specification. -/
import Derived.Test.YtflhojkjjlfegaaGreatDoorL28i
namespace Go.AJ
open Go Go.Proofs
set_option maxRecDepth 100000

section
variable {L n : Nat} {h : Hp} {kc : KC} {t : T V} {d : Dc} {k : KE} {fi : FI}

theorem wrap_ex (a : Int) : ∃ u, u < 18446744073709551616 ∧ wrapI .u64 a = .ofNat u := by
  have h1 : wrapI .u64 a = a % 18446744073709551616 := by
    rw [wrapI_eq]
    simp [IntKind.wrap, IntKind.signed, IntKind.bits]
  refine ⟨(a % 18446744073709551616).toNat, by omega, ?_⟩
  rw [h1, Int.ofNat_eq_natCast]
  omega

theorem call10 {a : Int} {u : Nat} (hu : wrapI .u64 a = .ofNat u) : call EzC (L + 1) (n + 2) (.fn 10) [.int .i64 a] none h kc = kc (.ret (.int .u64 (.ofNat (nxg (nxg u))))) none h := by
  rw [call_fn fn10, c10, r10, p10_0, p10_1]
  simp -implicitDefEqProofs only [↓normK_eq, ↓execK_eq, ↓opsK_eq, callK_eq, ↓bodyK_eq, ↓ops_all, putK_some, ↓exec_reg, ↓exec_seq, ↓exec_ret, ↓iterK_normal, ↓opsRun_nil, kv_eq, ev_t, ev_c, evs_nil, evs_cons, get_ins, op_mv, op_conv, op_call, callEnd_ret, conv_int, putArgs_nil, putArgs_cons, fnEnd_ret, res_nil, res_t, one_one, eq_self, reduceCtorEq, ↓reduceIte, hu, call29]

theorem call11 {a : Int} {u : Nat} (hu : wrapI .u64 a = .ofNat u) : call EzC (L + 1) (n + 2) (.fn 11) [.int .i64 a] none h kc = kc (.ret (.int .u64 (.ofNat (nxg (nxg u))))) none h := by
  rw [call_fn fn11, c11, r11, p11_0, p11_1, p11_2]
  simp -implicitDefEqProofs only [↓normK_eq, ↓execK_eq, ↓opsK_eq, callK_eq, ↓bodyK_eq, ↓ops_all, putK_some, ↓exec_reg, ↓exec_seq, ↓exec_ret, ↓iterK_normal, ↓opsRun_nil, kv_eq, ev_t, ev_c, evs_nil, evs_cons, get_ins, op_mv, op_conv, op_call, callEnd_ret, conv_int, putArgs_nil, putArgs_cons, fnEnd_ret, res_nil, res_t, one_one, eq_self, reduceCtorEq, ↓reduceIte, hu, call30]

theorem call13_bad {g a : Int} (ha : ltI a (.ofNat 0) = true) : call EzC (L + 1) (n + 1) (.fn 13) [.int .u64 g, .int .i64 a] none h kc = kc (.ret (.tup [.int .u64 (.ofNat 0), .int .i64 (.ofNat 1)])) none h := by
  rw [call_fn fn13, c13, r13, p13_0, p13_1, p13_2, p13_3, p13_4, p13_5]
  simp -implicitDefEqProofs only [↓normK_eq, ↓execK_eq, ↓opsK_eq, isT_bool, ↓bodyK_eq, ↓ops_all, putK_some, ↓exec_reg, ↓exec_seq, ↓exec_cond, ↓exec_ret, ↓iterK_normal, ↓iterK_ret, ↓opsRun_nil, kv_eq, ev_t, ev_c, get_ins, op_mv, op_ibin, ib_lss_i64, putArgs_nil, putArgs_cons, fnEnd_ret, res_nil, res_t, one_two, eq_self, Nat.reduceEqDiff, ↓reduceIte, ha]

structure S13 (t : T V) (N g : Nat) (one : Pw) : Prop where
  t0 : T.get und (K.of 0) t = .int .u64 (.ofNat g)
  t1 : T.get und (K.of 1) t = .int .i64 (.ofNat N)
  t6 : T.get und (K.of 6) t = .int .u64 (.ofNat one.1)
  t7 : T.get und (K.of 7) t = .int .u64 (.ofNat one.2)

theorem rem2 {a : Int} {h : Hp} {c : KV} : oIbin .rem (.int .i64 a) (.int .i64 (.ofNat 2)) h c = c (.int .i64 (Int.tmod a (.ofNat 2))) h := ibin_rem same_i64 rfl
theorem quo2 {a : Int} {h : Hp} {c : KV} : oIbin .quo (.int .i64 a) (.int .i64 (.ofNat 2)) h c = c (.int .i64 (wrapI .i64 (Int.tdiv a (.ofNat 2)))) h := ibin_quo same_i64 rfl

theorem b13_done {g : Nat} {one : Pw} (S : S13 t 0 g one) (h : Hp) (d : Dc) (fi : FI) : ∃ t1, S13 t1 0 g one ∧ ∀ {L n : Nat} {k : KE}, exec (call EzC (L + 1) n) (L + 1) fi b13_0 t d h k = k (.exit 0) t1 d h := by
  refine ⟨?t1, ?S, fun {L n k} => ?e⟩
  case e =>
    rw [b13_0]
    simp -implicitDefEqProofs only [↓normK_eq, ↓execK_eq, ↓opsK_eq, isT_bool, isF_bool, ↓ops_all, putK_some, ↓exec_reg, ↓exec_seq, ↓exec_cond, ↓exec_exit, ↓iterK_normal, ↓iterK_exit, ↓opsRun_nil, kv_eq, ev_t, ev_c, get_ins, op_mv, op_ibin, ib_gtr_i64, ltI_ofNat, eq_self, Bool.not_false, Bool.false_eq_true, ↓reduceIte, S.t1, Nat.lt_irrefl, decide_false]
    rfl
  case S => refine ⟨?_, ?_, ?_, ?_⟩ <;> simp -implicitDefEqProofs only [get_ins, eq_self, Nat.reduceEqDiff, reduceCtorEq, ↓reduceIte, S.t0, S.t1, S.t6, S.t7]

theorem b13_odd {N g : Nat} {one : Pw} (hN : N ≤ 9223372036854775807) (h0 : (0 < N) = True) (h1 : N % 2 = 1) (S : S13 t N g one) (h : Hp) (d : Dc) (fi : FI) :
    ∃ t1, S13 t1 (N / 2) ((g * one.1 % 18446744073709551616 + one.2) % 18446744073709551616) (beh one one) ∧ ∀ {L n : Nat} {k : KE}, exec (call EzC (L + 1) n) (L + 1) fi b13_0 t d h k = k .normal t1 d h := by
  have f1 : wrapI .i64 (.ofNat (N / 2)) = .ofNat (N / 2) := wrap_i64 (by omega)
  refine ⟨?t1, ?S, fun {L n k} => ?e⟩
  case e =>
    rw [b13_0]
    simp -implicitDefEqProofs only [↓normK_eq, ↓execK_eq, ↓opsK_eq, isT_bool, ↓ops_all, putK_some, ↓exec_skip, ↓exec_reg, ↓exec_seq, ↓exec_cond, ↓exec_block, ↓iterK_normal, ↓blockK_normal, ↓opsRun_nil, kv_eq, ev_t, ev_c, get_ins, op_mv, op_ibin, beqI_self, wrap_u64, ib_add_u64, ib_mul_u64, ib_eql_i64, ib_gtr_i64, add_ofNat, mul_ofNat, tdiv_ofNat, tmod_ofNat, ltI_ofNat, eq_self, Nat.reduceEqDiff, reduceCtorEq, ↓reduceIte, S.t0, S.t1, S.t6, S.t7, h0, h1, rem2, quo2, f1, decide_true]
    rfl
  case S => refine ⟨?_, ?_, ?_, ?_⟩ <;> simp -implicitDefEqProofs only [get_ins, eq_self, Nat.reduceEqDiff, reduceCtorEq, ↓reduceIte, beh]

theorem b13_even {N g : Nat} {one : Pw} (hN : N ≤ 9223372036854775807) (h0 : (0 < N) = True) (h1 : N % 2 = 0) (S : S13 t N g one) (h : Hp) (d : Dc) (fi : FI) :
    ∃ t1, S13 t1 (N / 2) g (beh one one) ∧ ∀ {L n : Nat} {k : KE}, exec (call EzC (L + 1) n) (L + 1) fi b13_0 t d h k = k .normal t1 d h := by
  have f1 : wrapI .i64 (.ofNat (N / 2)) = .ofNat (N / 2) := wrap_i64 (by omega)
  refine ⟨?t1, ?S, fun {L n k} => ?e⟩
  case e =>
    rw [b13_0]
    simp -implicitDefEqProofs only [↓normK_eq, ↓execK_eq, ↓opsK_eq, isT_bool, isF_bool, ↓ops_all, putK_some, ↓exec_skip, ↓exec_reg, ↓exec_seq, ↓exec_cond, ↓exec_block, ↓iterK_normal, ↓blockK_normal, ↓opsRun_nil, kv_eq, ev_t, ev_c, get_ins, op_mv, op_ibin, beqI_ofNat, wrap_u64, ib_add_u64, ib_mul_u64, ib_eql_i64, ib_gtr_i64, add_ofNat, mul_ofNat, tdiv_ofNat, tmod_ofNat, ltI_ofNat, eq_self, Nat.reduceEqDiff, reduceCtorEq, Bool.not_false, Bool.false_eq_true, ↓reduceIte, S.t1, S.t6, S.t7, h0, h1, rem2, quo2, f1, decide_true, decide_false]
    rfl
  case S => refine ⟨?_, ?_, ?_, ?_⟩ <;> simp -implicitDefEqProofs only [get_ins, eq_self, Nat.reduceEqDiff, reduceCtorEq, ↓reduceIte, S.t0, beh]

theorem app_eq (g : Nat) (one : Pw) : (g * one.1 % 18446744073709551616 + one.2) % 18446744073709551616 = app one g := by
  simp only [app]
  rw [Nat.add_mod, Nat.mod_mod, ← Nat.add_mod]

theorem itf_dbl (f : Nat → Nat) (k x : Nat) : itf (fun x => f (f x)) k x = itf f (2 * k) x := by
  induction k generalizing x with
  | zero => rfl
  | succ k ih => rw [show 2 * (k + 1) = 2 * k + 1 + 1 by omega]; exact ih (f (f x))

theorem app_beh2 (p : Pw) : app (beh p p) = fun x => app p (app p x) := funext (app_beh p p)

theorem loop13 : ∀ (B N : Nat), N ≤ B → N ≤ 9223372036854775807 → ∀ (t : T V) (g : Nat) (one : Pw) (h : Hp) (d : Dc) (fi : FI), S13 t N g one →
    ∃ t1, T.get und (K.of 0) t1 = .int .u64 (.ofNat (itf (app one) N g)) ∧ ∀ {L n M : Nat} {k : KE}, N < M → iter (exec (call EzC (L + 1) n) (L + 1) fi b13_0) M t d h k = k (.exit 0) t1 d h := by
  intro B
  induction B with
  | zero =>
    intro N hB hN t g one h d fi S
    have h0 : N = 0 := by omega
    subst h0
    obtain ⟨t1, S1, e⟩ := b13_done S h d fi
    refine ⟨t1, S1.t0, fun {L n M k} hM => ?_⟩
    obtain ⟨i, rfl⟩ : ∃ i, M = i + 1 := ⟨M - 1, by omega⟩
    rw [iter_succ, e, iterK_exit]
  | succ B ih =>
    intro N hB hN t g one h d fi S
    by_cases h0 : N = 0
    · subst h0
      obtain ⟨t1, S1, e⟩ := b13_done S h d fi
      refine ⟨t1, S1.t0, fun {L n M k} hM => ?_⟩
      obtain ⟨i, rfl⟩ : ∃ i, M = i + 1 := ⟨M - 1, by omega⟩
      rw [iter_succ, e, iterK_exit]
    · rcases Nat.mod_two_eq_zero_or_one N with h1 | h1
      · obtain ⟨t1, S1, e⟩ := b13_even hN (eq_true (by omega)) h1 S h d fi
        obtain ⟨t2, r2, e2⟩ := ih (N / 2) (by omega) (by omega) t1 g (beh one one) h d fi S1
        have hr : itf (app (beh one one)) (N / 2) g = itf (app one) N g := by
          rw [app_beh2, itf_dbl, show 2 * (N / 2) = N by omega]
        rw [hr] at r2
        refine ⟨t2, r2, fun {L n M k} hM => ?_⟩
        obtain ⟨i, rfl⟩ : ∃ i, M = i + 1 := ⟨M - 1, by omega⟩
        rw [iter_succ, e, iterK_normal, e2 (by omega)]
      · obtain ⟨t1, S1, e⟩ := b13_odd hN (eq_true (by omega)) h1 S h d fi
        rw [app_eq] at S1
        obtain ⟨t2, r2, e2⟩ := ih (N / 2) (by omega) (by omega) t1 _ (beh one one) h d fi S1
        have hr : itf (app (beh one one)) (N / 2) (app one g) = itf (app one) N g := by
          rw [app_beh2, itf_dbl]
          conv => rhs; rw [show N = 2 * (N / 2) + 1 by omega]
          rfl
        rw [hr] at r2
        refine ⟨t2, r2, fun {L n M k} hM => ?_⟩
        obtain ⟨i, rfl⟩ : ∃ i, M = i + 1 := ⟨M - 1, by omega⟩
        rw [iter_succ, e, iterK_normal, e2 (by omega)]

theorem call13 {N x : Nat} (hN : N ≤ 9223372036854775807) (h : Hp) : ∀ {L n : Nat} {kc : KC}, N ≤ L → call EzC (L + 1) (n + 1) (.fn 13) [.int .u64 (.ofNat x), .int .i64 (.ofNat N)] none h kc = kc (.ret (.tup [.int .u64 (.ofNat (skg N x)), .int .i64 (.ofNat 0)])) none h := by
  obtain ⟨T0, hT⟩ : ∃ T0 : T V, T0 = T.ins und (.int .u64 (.ofNat 1442695040888963407)) (K.of 7) (T.ins und (.int .u64 (.ofNat 6364136223846793005)) (K.of 6) (T.ins und (.bool false) (K.of 9) (T.ins und (.int .i64 (.ofNat N)) (K.of 8) (T.ins und (.int .i64 (.ofNat 0)) (K.of 5) (T.ins und (.int .u64 (.ofNat 0)) (K.of 4) (T.ins und (.int .i64 (.ofNat N)) (K.of 1) (T.ins und (.int .u64 (.ofNat x)) (K.of 0) .l))))))) := ⟨_, rfl⟩
  have S : S13 T0 N x (6364136223846793005, 1442695040888963407) := by
    rw [hT]
    refine ⟨?_, ?_, ?_, ?_⟩ <;> simp -implicitDefEqProofs only [get_ins, eq_self, Nat.reduceEqDiff, reduceCtorEq, ↓reduceIte]
  obtain ⟨t1, r1, e⟩ := loop13 N N (Nat.le_refl _) hN T0 x _ h (.mk [] none) (.mk 13 none) S
  intro L n kc hL
  have f1 : (N < 0) = False := eq_false (by omega)
  rw [call_fn fn13, c13, r13, p13_0, p13_1, p13_2, p13_3, p13_4, p13_5]
  simp -implicitDefEqProofs only [↓normK_eq, ↓execK_eq, ↓opsK_eq, isT_bool, isF_bool, ↓bodyK_eq, ↓ops_all, putK_some, ↓exec_skip, ↓exec_reg, ↓exec_seq, ↓exec_cond, ↓exec_block, ↓exec_ret, ↓iterK_normal, ↓blockK_exit, ↓opsRun_nil, kv_eq, ev_t, ev_c, get_ins, op_mv, op_ibin, ib_lss_i64, ltI_ofNat, putArgs_nil, putArgs_cons, fnEnd_ret, res_nil, res_t, one_two, eq_self, Nat.reduceEqDiff, Bool.not_false, Bool.false_eq_true, ↓reduceIte, f1, decide_false, exec_loop, ← hT, e (show N < L + 1 by omega), r1, skg]

end
end Go.AJ

