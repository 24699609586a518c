/- Shuffle, whole. -/
import Derived.Test.YtflhojkjjlfegaaGreatDoorL28h
namespace Go.AJ
open Go Go.Proofs
set_option maxRecDepth 100000

section
variable {L n : Nat} {h : Hp} {kc : KC} {t : T V} {d : Dc} {k : KE} {fi : FI}

theorem call14_bad {g a : Int} (ha : ltI a (.ofNat 0) = true ∨ ltI (.ofNat 4000) a = true) : call EzC (L + 1) (n + 1) (.fn 14) [.int .u64 g, .int .i64 a] none h kc = kc (.ret (.tup [.nils, .int .u64 (.ofNat 0), .int .i64 (.ofNat 1)])) none h := by
  rw [call_fn fn14, c14, r14, p14_0, p14_1, p14_2, p14_3, p14_4, p14_5]
  by_cases h1 : ltI a (.ofNat 0) = true
  · simp -implicitDefEqProofs only [↓normK_eq, ↓execK_eq, ↓opsK_eq, isT_bool, ↓bodyK_eq, ↓ops_all, ↓ops_some, putK_some, ↓exec_reg, ↓exec_seq, ↓exec_cond, ↓exec_ret, ↓iterK_normal, ↓iterK_ret, ↓opsRun_nil, wantB_bool, kv_eq, ev_t, ev_c, get_ins, op_mv, op_pick, op_ibin, pick_bool, ib_lss_i64, putArgs_nil, putArgs_cons, fnEnd_ret, res_nil, res_t, one_two, eq_self, Nat.reduceEqDiff, Bool.false_eq_true, Bool.true_beq, ↓reduceIte, h1]
  · have h2 := ha.resolve_left h1
    have h1 : ltI a (.ofNat 0) = false := by simpa using h1
    simp -implicitDefEqProofs only [↓normK_eq, ↓execK_eq, ↓opsK_eq, isT_bool, ↓bodyK_eq, ↓ops_all, ↓ops_some, putK_some, ↓exec_reg, ↓exec_seq, ↓exec_cond, ↓exec_ret, ↓iterK_normal, ↓iterK_ret, ↓opsRun_nil, wantB_bool, kv_eq, ev_t, ev_c, get_ins, op_mv, op_pick, op_ibin, pick_bool, ib_lss_i64, ib_gtr_i64, putArgs_nil, putArgs_cons, fnEnd_ret, res_nil, res_t, one_two, eq_self, Nat.reduceEqDiff, Bool.false_eq_true, beq_self_eq_true, ↓reduceIte, h1, h2]

theorem pre14a {v0 v1 : V} (h0 : T.get und (K.of 0) t = v0) (h1 : T.get und (K.of 1) t = v1) (h : Hp) (d : Dc) (fi : FI) :
    ∃ t1, T.get und (K.of 0) t1 = v0 ∧ T.get und (K.of 1) t1 = v1 ∧ ∀ {L n : Nat} {k : KE}, exec (call EzC (L + 1) (n + 2)) (L + 1) fi p14_0 t d h k = k .normal t1 d h := by
  refine ⟨?t1, ?S, ?S', fun {L n k} => ?e⟩
  case e =>
    rw [p14_0]
    simp -implicitDefEqProofs only [↓normK_eq, ↓opsK_eq, ↓ops_all, putK_some, ↓exec_reg, ↓opsRun_nil, kv_eq, ev_c, op_mv]
    rfl
  case S => simp -implicitDefEqProofs only [get_ins, eq_self, reduceCtorEq, ↓reduceIte, h0]
  case S' => simp -implicitDefEqProofs only [get_ins, eq_self, Nat.reduceEqDiff, ↓reduceIte, h1]

theorem pre14b {v0 : V} {m : Nat} (hm : m ≤ 4000) (h0 : T.get und (K.of 0) t = v0) (h1 : T.get und (K.of 1) t = .int .i64 (.ofNat m)) (h : Hp) (d : Dc) (fi : FI) :
    ∃ t1, T.get und (K.of 0) t1 = v0 ∧ T.get und (K.of 1) t1 = .int .i64 (.ofNat m) ∧ ∀ {L n : Nat} {k : KE}, exec (call EzC (L + 1) (n + 2)) (L + 1) fi p14_1 t d h k = k .normal t1 d h := by
  have f1 : (m < 0) = False := eq_false (by omega)
  have f2 : (4000 < m) = False := eq_false (by omega)
  refine ⟨?t1, ?S, ?S', fun {L n k} => ?e⟩
  case e =>
    rw [p14_1]
    simp -implicitDefEqProofs only [↓normK_eq, ↓execK_eq, ↓opsK_eq, isT_bool, isF_bool, ↓ops_all, ↓ops_some, putK_some, ↓exec_skip, ↓exec_reg, ↓exec_seq, ↓exec_cond, ↓iterK_normal, ↓opsRun_nil, wantB_bool, kv_eq, ev_t, ev_c, get_ins, op_mv, op_pick, op_ibin, pick_bool, ib_lss_i64, ib_gtr_i64, ltI_ofNat, eq_self, Nat.reduceEqDiff, Bool.not_false, Bool.false_eq_true, beq_self_eq_true, ↓reduceIte, h1, f1, f2, decide_false]
    rfl
  case S => simp -implicitDefEqProofs only [get_ins, eq_self, reduceCtorEq, ↓reduceIte, h0]
  case S' => simp -implicitDefEqProofs only [get_ins, eq_self, Nat.reduceEqDiff, ↓reduceIte, h1]

theorem init14 {m x : Nat} (hm : m ≤ 4000) (h0 : T.get und (K.of 0) t = .int .u64 (.ofNat x)) (h1 : T.get und (K.of 1) t = .int .i64 (.ofNat m)) (h : Hp) (d : Dc) (fi : FI) :
    ∃ t1 h1, S14 t1 h1 m (rg 0 m) x (nxt h).succ (nxt h) ∧ T.get und (K.of 1) t1 = .int .i64 (.ofNat m) ∧ Keeps h h1 ∧ ∀ {L n : Nat} {k : KE}, exec (call EzC (L + 1) (n + 2)) (L + 1) fi p14_2 t d h k = k .normal t1 d h1 := by
  have em : ∀ (h : Hp) (c : KV), oMkslice (.int .i64 (.ofNat m)) (.int .i64 (.ofNat m)) [.int .i64 (.ofNat 0)] 8 h c = c (.sl (nxt h) 0 m m 0) (h.upd (nxt h) (.cells (ints (List.replicate m 0)))).bump := fun h c => by
    rw [mks_nat (by omega), rep_ints]
  have ec : ∀ (h : Hp) (b : K), mksC (.int .i64 (.ofNat m)) (.int .i64 (.ofNat m)) [.int .i64 (.ofNat 0)] 8 h (.sl b 0 m m 0) = bearB (blk h b) (ints (List.replicate m 0)) := fun h b => by
    rw [mksC_nat (by omega), rep_ints, bears_def]
  refine ⟨?t1, ?h1, ?S, ?T, ?K, fun {L n k} => ?e⟩
  case e =>
    rw [p14_2]
    simp -implicitDefEqProofs only [↓normK_eq, ↓opsK_eq, ↓stagesK_eq, ↓ops_all, putK_some, putK_none, ↓draw_cons, ↓drawK_none, ↓drawK_some, chk_all, ↓exec_draw, ↓opsRun_nil, kv_eq, kh_eq, ev_t, get_ins, op_mv, op_alloc, op_store, op_mkslice, ↓draw_nil, chkAll_nil, chkAll_cons, chk_mv, veq_int, kEq_refl, veq_sl, beqI_self, upd_same, eq_self, Nat.reduceEqDiff, reduceCtorEq, Bool.and_self, nxt_upd, nxt_bump, ↓reduceIte, bears_def, bear_ints, bear_int, chk_alloc, chk_mkslice, st_int, stB_0, blk_bump, blk_upd, bump_upd, upd_upd, K.self_ne_succ, h0, h1, em, ec]
    rfl
  case S =>
    refine ⟨?_, ?_, ?_, ?_, rg_length (by omega), ?_, ?_, ?_, ?_⟩
    · simp -implicitDefEqProofs only [get_ins, eq_self, Nat.reduceEqDiff, ↓reduceIte]
    · simp -implicitDefEqProofs only [get_ins, eq_self, ↓reduceIte]
    · simp -implicitDefEqProofs only [upd_same, eq_self, blk_bump]
    · simp -implicitDefEqProofs only [upd_same, eq_self, ↓reduceIte, blk_bump, blk_upd, K.self_ne_succ, rg_zero]
    · simp only [nxt_bump, nxt_upd, K.num_succ]; omega
    · simp only [nxt_bump, nxt_upd, K.num_succ]; omega
    · simp only [K.self_ne_succ]
    · simp only [K.succ_ne_self]
  case T => simp -implicitDefEqProofs only [get_ins, eq_self, Nat.reduceEqDiff, ↓reduceIte, h1]
  case K =>
    constructor
    · simp only [nxt_bump, nxt_upd, K.num_succ]; omega
    · intro b hb
      have e1 : (b = nxt h) = False := eq_false fun e => by subst e; omega
      have e2 : (b = (nxt h).succ) = False := eq_false fun e => by subst e; rw [K.num_succ] at hb; omega
      simp only [blk_bump, blk_upd, e1, e2, if_false]

theorem p14_3_ok {m x : Nat} {b7 b8 : K} (hm : m ≤ 4000) (S : S14 t h m (rg 0 m) x b7 b8) (h1 : T.get und (K.of 1) t = .int .i64 (.ofNat m)) (d : Dc) (fi : FI) :
    ∃ t1 h1, S14 t1 h1 m (List.range m) x b7 b8 ∧ T.get und (K.of 1) t1 = .int .i64 (.ofNat m) ∧ Off h h1 b7 b8 ∧ ∀ {L n : Nat} {k : KE}, m ≤ L → exec (call EzC (L + 1) (n + 2)) (L + 1) fi p14_3 t d h k = k .normal t1 d h1 := by
  have I : I14 (T.ins und (.int .i64 (.ofNat 0)) (K.of 23) (T.ins und (.int .i64 (.ofNat m)) (K.of 22) (T.ins und (.sl b8 0 m m 0) (K.of 21) t))) h m 0 x b7 b8 := by
    refine ⟨⟨?_, ?_, S.m7, S.m8, S.len, S.n7, S.n8, S.ne, S.ne'⟩, ?_, ?_, ?_⟩ <;> simp -implicitDefEqProofs only [get_ins, eq_self, Nat.reduceEqDiff, ↓reduceIte, S.t7, S.t8, h1]
  obtain ⟨t1, h1', S1, O, e⟩ := iloop14 hm m 0 _ h b7 b8 d fi (by omega) I
  have hs := S1.s
  rw [rg_full] at hs
  refine ⟨t1, h1', hs, S1.t1, O, fun {L n k} hL => ?_⟩
  rw [p14_3]
  simp -implicitDefEqProofs only [↓normK_eq, ↓execK_eq, ↓opsK_eq, ↓ops_all, putK_some, ↓exec_reg, ↓exec_seq, ↓exec_block, ↓iterK_normal, ↓blockK_exit, ↓opsRun_nil, kv_eq, ev_t, ev_c, get_ins, op_mv, op_len, eq_self, ↓reduceIte, len_sl, S.t8, exec_loop, e (show m < L + 1 by omega)]

theorem p14_4_ok {J m x y : Nat} {l' : List Nat} {b7 b8 : K} (hm : m ≤ 4000) (S : S14 t h m (List.range m) x b7 b8) (h1 : T.get und (K.of 1) t = .int .i64 (.ofNat m)) (hs : ShR J (m - 1) (List.range m) x l' y) (d : Dc) (fi : FI) :
    ∃ t1 h1, S14 t1 h1 m l' y b7 b8 ∧ Off h h1 b7 b8 ∧ ∀ {L n : Nat} {k : KE}, m ≤ L → J ≤ L → exec (call EzC (L + 1) (n + 2)) (L + 1) fi p14_4 t d h k = k .normal t1 d h1 := by
  by_cases h0 : m = 0
  · have hI : ltI (wrapI .i64 (Int.sub (.ofNat m) (.ofNat 1))) (.ofNat 1) = true := by rw [h0]; decide
    obtain ⟨I, hI'⟩ : ∃ I, I = wrapI .i64 (Int.sub (.ofNat m) (.ofNat 1)) := ⟨_, rfl⟩
    rw [← hI'] at hI
    have S' : S14 (T.ins und (.int .i64 I) (K.of 10) (T.ins und (.int .i64 I) (K.of 32) (T.ins und (.int .i64 (.ofNat m)) (K.of 31) t))) h m (List.range m) x b7 b8 := by
      refine ⟨?_, ?_, S.m7, S.m8, S.len, S.n7, S.n8, S.ne, S.ne'⟩ <;> simp -implicitDefEqProofs only [get_ins, eq_self, Nat.reduceEqDiff, ↓reduceIte, S.t7, S.t8]
    obtain ⟨t1, S1, e⟩ := b14_done hI (by simp -implicitDefEqProofs only [get_ins, eq_self, ↓reduceIte]) S' d fi
    have hl : l' = List.range m ∧ y = x := by
      subst h0
      generalize hz : 0 - 1 = z at hs
      have hz : z = 0 := by omega
      subst hz
      cases hs
      exact ⟨rfl, rfl⟩
    rw [hl.1, hl.2]
    refine ⟨t1, h, S1, ⟨Nat.le_refl _, fun _ _ _ _ => rfl⟩, fun {L n k} hL hJ => ?_⟩
    rw [p14_4]
    simp -implicitDefEqProofs only [↓normK_eq, ↓execK_eq, ↓opsK_eq, ↓ops_all, putK_some, ↓exec_reg, ↓exec_seq, ↓exec_block, ↓iterK_normal, ↓iterK_exit, ↓blockK_exit, ↓opsRun_nil, kv_eq, ev_t, ev_c, get_ins, op_mv, op_ibin, ib_sub_i64, eq_self, ↓reduceIte, h1, ← hI', exec_loop, iter_succ, e]
  · have f3 : wrapI .i64 (Int.sub (.ofNat m) (.ofNat 1)) = .ofNat (m - 1) := by rw [sub_ofNat (by omega), wrap_i64 (by omega)]
    have S' : S14 (T.ins und (.int .i64 (.ofNat (m - 1))) (K.of 10) (T.ins und (.int .i64 (.ofNat (m - 1))) (K.of 32) (T.ins und (.int .i64 (.ofNat m)) (K.of 31) t))) h m (List.range m) x b7 b8 := by
      refine ⟨?_, ?_, S.m7, S.m8, S.len, S.n7, S.n8, S.ne, S.ne'⟩ <;> simp -implicitDefEqProofs only [get_ins, eq_self, Nat.reduceEqDiff, ↓reduceIte, S.t7, S.t8]
    obtain ⟨t1, h1', S1, O, e⟩ := loop14 hm hs _ h b7 b8 d fi (by omega) (by simp -implicitDefEqProofs only [get_ins, eq_self, ↓reduceIte]) S'
    refine ⟨t1, h1', S1, O, fun {L n k} hL hJ => ?_⟩
    rw [p14_4]
    simp -implicitDefEqProofs only [↓normK_eq, ↓execK_eq, ↓opsK_eq, ↓ops_all, putK_some, ↓exec_reg, ↓exec_seq, ↓exec_block, ↓iterK_normal, ↓blockK_exit, ↓opsRun_nil, kv_eq, ev_t, ev_c, get_ins, op_mv, op_ibin, ib_sub_i64, eq_self, ↓reduceIte, h1, f3, exec_loop, e hJ (show m - 1 < L + 1 by omega)]

/-- Shuffle. -/
theorem call14 {J m x y : Nat} {l' : List Nat} (hm : m ≤ 4000) (hs : ShR J (m - 1) (List.range m) x l' y) (h : Hp) :
    ∃ h' b, Keeps h h' ∧ blk h' b = .cells (ints l') ∧ l'.length = m ∧ (nxt h).num ≤ b.num ∧ b.num < (nxt h').num ∧ ∀ {L n : Nat} {kc : KC}, J ≤ L → m ≤ L →
      call EzC (L + 1) (n + 3) (.fn 14) [.int .u64 (.ofNat x), .int .i64 (.ofNat m)] none h kc = kc (.ret (.tup [.sl b 0 m m 0, .int .u64 (.ofNat y), .int .i64 (.ofNat 0)])) none h' := by
  obtain ⟨T0, hT⟩ : ∃ T0 : T V, T0 = T.ins und (.int .i64 (.ofNat m)) (K.of 1) (T.ins und (.int .u64 (.ofNat x)) (K.of 0) .l) := ⟨_, rfl⟩
  have q0 : T.get und (K.of 0) T0 = .int .u64 (.ofNat x) := by rw [hT]; simp -implicitDefEqProofs only [get_ins, eq_self, reduceCtorEq, ↓reduceIte]
  have q1 : T.get und (K.of 1) T0 = .int .i64 (.ofNat m) := by rw [hT]; simp -implicitDefEqProofs only [get_ins, eq_self, ↓reduceIte]
  obtain ⟨ta, a0, a1, ea⟩ := pre14a q0 q1 h (.mk [] none) (.mk 14 none)
  obtain ⟨tb, b0, b1, eb⟩ := pre14b hm a0 a1 h (.mk [] none) (.mk 14 none)
  obtain ⟨tc, hc, Sc, c1, Kc, ec⟩ := init14 hm b0 b1 h (.mk [] none) (.mk 14 none)
  obtain ⟨td, hd, Sd, d1, Od, ed⟩ := p14_3_ok hm Sc c1 (.mk [] none) (.mk 14 none)
  obtain ⟨te, he, Se, Oe, ee⟩ := p14_4_ok hm Sd d1 hs (.mk [] none) (.mk 14 none)
  have O := Od.trans Oe
  refine ⟨he, nxt h, ⟨Nat.le_trans Kc.nx O.1, fun b hb => ?_⟩, Se.m8, Se.len, Nat.le_refl _, Se.n8, fun {L n kc} hJ hL => ?_⟩
  · rw [O.2 b (Nat.lt_of_lt_of_le hb Kc.nx) (fun e => by subst e; rw [K.num_succ] at hb; omega) (fun e => by subst e; omega)]
    exact Kc.old b hb
  · rw [call_fn fn14, r14, c14]
    simp -implicitDefEqProofs only [putArgs_cons, putArgs_nil, Nat.zero_add, ↓bodyK_eq, ← hT, ↓exec_seq, ea, ↓execK_eq, ↓iterK_normal, eb, ec, ed hL, ee hL hJ]
    rw [p14_5]
    simp -implicitDefEqProofs only [↓normK_eq, ↓execK_eq, ↓opsK_eq, isV_eq, ↓ops_all, putK_some, ↓draw_cons, ↓drawK_none, chk_all, ↓exec_draw, ↓exec_ret, ↓iterK_normal, ↓opsRun_nil, kv_eq, ev_t, ev_c, get_ins, op_mv, op_load1, ↓draw_nil, chkAll_nil, chkAll_cons, chk_mv, chk_load1, veq_int, kEq_refl, veq_sl, beqI_self, fnEnd_ret, res_nil, res_t, one_two, eq_self, Nat.reduceEqDiff, Bool.and_self, ↓reduceIte, ld_ptr, ldB_0, Se.t7, Se.t8, Se.m7]

end
end Go.AJ

