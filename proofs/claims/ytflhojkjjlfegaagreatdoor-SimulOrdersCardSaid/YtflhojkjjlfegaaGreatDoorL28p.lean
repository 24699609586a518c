/- More loops of SimulOrders. -/
import Derived.Test.YtflhojkjjlfegaaGreatDoorL28o
namespace Go.AJ
open Go Go.Proofs
set_option maxRecDepth 100000

section
variable {L n : Nat} {h : Hp} {kc : KC} {t : T V} {d : Dc} {k : KE} {fi : FI} {c : KV}

/-! ### The third loop -/
structure R6 (t : T V) (h : Hp) (m i : Nat) (b : K) : Prop where
  t13 : T.get und (K.of 13) t = .sl b 0 m m 0
  t88 : T.get und (K.of 88) t = .int .i64 (.ofNat m)
  t89 : T.get und (K.of 89) t = .int .i64 (.ofNat i)
  mb : blk h b = .cells (ints (rg i m))

theorem b6_2_done {m : Nat} {b : K} (S : R6 t h m m b) (d : Dc) (fi : FI) : ∃ t1, Kp [0, 1, 5, 6, 12, 13] t t1 ∧ ∀ {L n : Nat} {k : KE}, exec (call EzC (L + 1) n) (L + 1) fi b6_2 t d h k = k (.exit 4) t1 d h := by
  refine ⟨?t1, ?S, fun {L n k} => ?e⟩
  case e =>
    rw [b6_2]
    simp -implicitDefEqProofs only [↓normK_eq, ↓execK_eq, ↓opsK_eq, isT_bool, isF_bool, ↓ops_all, putK_some, ↓exec_reg, ↓exec_seq, ↓exec_cond, ↓exec_exit, ↓iterK_normal, ↓iterK_exit, ↓opsRun_nil, kv_eq, ev_t, get_ins, op_ibin, ib_lss_i64, ltI_ofNat, eq_self, Bool.not_false, Bool.false_eq_true, ↓reduceIte, S.t88, S.t89, Nat.lt_irrefl, decide_false]
    rfl
  case S => simp -implicitDefEqProofs only [Kp, List.mem_cons, List.not_mem_nil, or_false, forall_eq_or_imp, forall_eq, get_ins, eq_self, Nat.reduceEqDiff, reduceCtorEq, ↓reduceIte, and_self]

theorem b6_2_step {m i : Nat} {b : K} (hi : i < m) (hm : m ≤ 4000) (S : R6 t h m i b) (d : Dc) (fi : FI) :
    ∃ t1, Kp [0, 1, 5, 6, 12, 13] t t1 ∧ R6 t1 (h.upd b (.cells (ints (rg (i + 1) m)))) m (i + 1) b ∧ ∀ {L n : Nat} {k : KE}, exec (call EzC (L + 1) n) (L + 1) fi b6_2 t d h k = k .normal t1 d (h.upd b (.cells (ints (rg (i + 1) m)))) := by
  have g1 : (i < m) = True := eq_true hi
  have f2 : wrapI .i64 (.ofNat (i + 1)) = .ofNat (i + 1) := wrap_i64 (by omega)
  have q3 : ∀ (h : Hp) (f : Hp → Bool), stB (.cells (ints (rg i m))) b i [.int .i64 (.ofNat i)] h f = f (h.upd b (.cells (ints (rg (i + 1) m)))) := fun h f => by
    rw [stB_ints (by rw [rg_length (by omega)]; exact hi), rg_set hi]
  refine ⟨?t1, ?K, ?S, fun {L n k} => ?e⟩
  case e =>
    rw [b6_2]
    simp -implicitDefEqProofs only [↓normK_eq, ↓execK_eq, ↓opsK_eq, isT_bool, ↓ops_all, putK_some, putK_none, ↓exec_skip, ↓exec_reg, ↓exec_seq, ↓exec_cond, ↓exec_block, ↓iterK_normal, ↓blockK_normal, ↓opsRun_nil, kv_eq, kh_eq, ev_t, ev_c, get_ins, op_mv, op_ibin, op_idx, op_store, ib_add_i64, ib_lss_i64, add_ofNat, ltI_ofNat, eq_self, Nat.reduceEqDiff, ↓reduceIte, st_int, idx_nat, Nat.zero_add, Nat.mul_one, S.t13, S.t88, S.t89, S.mb, g1, decide_true, q3, f2]
    rfl
  case K => simp -implicitDefEqProofs only [Kp, List.mem_cons, List.not_mem_nil, or_false, forall_eq_or_imp, forall_eq, get_ins, eq_self, Nat.reduceEqDiff, reduceCtorEq, ↓reduceIte, and_self]
  case S =>
    refine ⟨?_, ?_, ?_, upd_same⟩ <;> simp -implicitDefEqProofs only [get_ins, eq_self, Nat.reduceEqDiff, ↓reduceIte, S.t13, S.t88]

theorem loop6_2 {m : Nat} {b : K} (hm : m ≤ 4000) : ∀ (q i : Nat) (t : T V) (h : Hp) (d : Dc) (fi : FI), m = i + q → R6 t h m i b →
    ∃ t1 h1, Kp [0, 1, 5, 6, 12, 13] t t1 ∧ Off1 h h1 b ∧ blk h1 b = .cells (ints (List.range m)) ∧ ∀ {L n M : Nat} {k : KE}, q < M → iter (exec (call EzC (L + 1) n) (L + 1) fi b6_2) M t d h k = k (.exit 4) t1 d h1 := by
  intro q
  induction q with
  | zero =>
    intro i t h d fi he S
    have hi : i = m := by omega
    subst hi
    obtain ⟨t1, K1, e⟩ := b6_2_done S d fi
    refine ⟨t1, h, K1, Off1.refl _ _, by rw [S.mb, rg_full], fun {L n M k} hM => ?_⟩
    obtain ⟨q, rfl⟩ : ∃ q, M = q + 1 := ⟨M - 1, by omega⟩
    rw [iter_succ, e, iterK_exit]
  | succ q ih =>
    intro i t h d fi he S
    obtain ⟨t1, K1, S1, e⟩ := b6_2_step (by omega) hm S d fi
    obtain ⟨t2, h2, K2, O2, m2, e2⟩ := ih (i + 1) t1 _ d fi (by omega) S1
    refine ⟨t2, h2, K1.trans K2, (Off1.upd h b _).trans O2, m2, fun {L n M k} hM => ?_⟩
    obtain ⟨p, rfl⟩ : ∃ p, M = p + 1 := ⟨M - 1, by omega⟩
    rw [iter_succ, e, iterK_normal, e2 (by omega)]

/-! ### slices.Index -/
structure X19 (t : T V) (b : K) (e m v i : Nat) : Prop where
  t0 : T.get und (K.of 0) t = .sl b 0 e m 0
  t1 : T.get und (K.of 1) t = .int .i64 (.ofNat v)
  t7 : T.get und (K.of 7) t = .int .i64 (.ofNat e)
  t8 : T.get und (K.of 8) t = .int .i64 (.ofNat i)

theorem b19_hit {b : K} {e m i : Nat} {l : List Nat} (hi : i < e) (he : e ≤ l.length) (hb : blk h b = .cells (ints l)) (S : X19 t b e m (l.getD i 0) i) (d : Dc) (fi : FI) :
    ∃ t1, T.get und (K.of 4) t1 = .int .i64 (.ofNat i) ∧ ∀ {L n : Nat} {k : KE}, exec (call EzC (L + 1) n) (L + 1) fi b19_0 t d h k = k .ret t1 d h := by
  have g1 : (i < e) = True := eq_true hi
  have q1 : ∀ (h : Hp) (c : KV), ldB (.cells (ints l)) i h c = c (.int .i64 (.ofNat (l.getD i 0))) h := fun h c => ldB_ints (by omega)
  refine ⟨?t1, ?S, fun {L n k} => ?e⟩
  case e =>
    rw [b19_0]
    simp -implicitDefEqProofs only [↓normK_eq, ↓execK_eq, ↓opsK_eq, isT_bool, ↓ops_all, putK_some, ↓exec_skip, ↓exec_reg, ↓exec_seq, ↓exec_cond, ↓exec_block, ↓exec_ret, ↓iterK_normal, ↓iterK_ret, ↓blockK_ret, ↓opsRun_nil, kv_eq, ev_t, get_ins, op_mv, op_load1, op_ibin, op_idx, beqI_self, ib_eql_i64, ib_lss_i64, ltI_ofNat, eq_self, Nat.reduceEqDiff, reduceCtorEq, ↓reduceIte, ld_ptr, idx_nat, Nat.zero_add, Nat.mul_one, S.t0, S.t1, S.t7, S.t8, hb, g1, decide_true, q1]
    rfl
  case S => simp -implicitDefEqProofs only [get_ins, eq_self, ↓reduceIte]

theorem b19_miss {b : K} {e m i v : Nat} {l : List Nat} (hi : i < e) (he : e ≤ l.length) (hm : e ≤ 4000) (hv : (v = l.getD i 0) = False) (hb : blk h b = .cells (ints l)) (S : X19 t b e m v i) (d : Dc) (fi : FI) :
    ∃ t1, X19 t1 b e m v (i + 1) ∧ ∀ {L n : Nat} {k : KE}, exec (call EzC (L + 1) n) (L + 1) fi b19_0 t d h k = k .normal t1 d h := by
  have g1 : (i < e) = True := eq_true hi
  have f2 : wrapI .i64 (.ofNat (i + 1)) = .ofNat (i + 1) := wrap_i64 (by omega)
  have q1 : ∀ (h : Hp) (c : KV), ldB (.cells (ints l)) i h c = c (.int .i64 (.ofNat (l.getD i 0))) h := fun h c => ldB_ints (by omega)
  refine ⟨?t1, ?S, fun {L n k} => ?e⟩
  case e =>
    rw [b19_0]
    simp -implicitDefEqProofs only [↓normK_eq, ↓execK_eq, ↓opsK_eq, isT_bool, isF_bool, ↓ops_all, putK_some, ↓exec_skip, ↓exec_reg, ↓exec_seq, ↓exec_cond, ↓exec_block, ↓iterK_normal, ↓blockK_normal, ↓opsRun_nil, kv_eq, ev_t, ev_c, get_ins, op_mv, op_load1, op_ibin, op_idx, beqI_ofNat, ib_add_i64, ib_eql_i64, ib_lss_i64, add_ofNat, ltI_ofNat, eq_self, Nat.reduceEqDiff, reduceCtorEq, Bool.not_false, Bool.false_eq_true, ↓reduceIte, ld_ptr, idx_nat, Nat.zero_add, Nat.mul_one, S.t0, S.t1, S.t7, S.t8, hb, g1, decide_true, decide_false, hv, q1, f2]
    rfl
  case S => refine ⟨?_, ?_, ?_, ?_⟩ <;> simp -implicitDefEqProofs only [get_ins, eq_self, Nat.reduceEqDiff, reduceCtorEq, ↓reduceIte, S.t0, S.t1, S.t7]

theorem loop19 {b : K} {e m j : Nat} {l : List Nat} (hj : j < e) (he : e ≤ l.length) (hm : e ≤ 4000) (hd : Dis l) (hb : blk h b = .cells (ints l)) : ∀ (q i : Nat) (t : T V) (d : Dc) (fi : FI), j = i + q → X19 t b e m (l.getD j 0) i →
    ∃ t1, T.get und (K.of 4) t1 = .int .i64 (.ofNat j) ∧ ∀ {L n M : Nat} {k : KE}, q < M → iter (exec (call EzC (L + 1) n) (L + 1) fi b19_0) M t d h k = k .ret t1 d h := by
  intro q
  induction q with
  | zero =>
    intro i t d fi hq S
    have hi : i = j := by omega
    subst hi
    obtain ⟨t1, r, ee⟩ := b19_hit hj he hb S d fi
    refine ⟨t1, r, fun {L n M k} hM => ?_⟩
    obtain ⟨q, rfl⟩ : ∃ q, M = q + 1 := ⟨M - 1, by omega⟩
    rw [iter_succ, ee, iterK_ret]
  | succ q ih =>
    intro i t d fi hq S
    obtain ⟨t1, S1, ee⟩ := b19_miss (by omega) he hm (eq_false fun he' => by have := hd j i (by omega) (by omega) he'; omega) hb S d fi
    obtain ⟨t2, r, e2⟩ := ih (i + 1) t1 d fi (by omega) S1
    refine ⟨t2, r, fun {L n M k} hM => ?_⟩
    obtain ⟨p, rfl⟩ : ∃ p, M = p + 1 := ⟨M - 1, by omega⟩
    rw [iter_succ, ee, iterK_normal, e2 (by omega)]

theorem call19 {b : K} {e m j : Nat} {l : List Nat} (hj : j < e) (he : e ≤ l.length) (hm : e ≤ 4000) (hd : Dis l) (hb : blk h b = .cells (ints l)) : ∀ {L n : Nat} {kc : KC}, j ≤ L →
    call EzC (L + 1) (n + 1) (.fn 19) [.sl b 0 e m 0, .int .i64 (.ofNat (l.getD j 0))] none h kc = kc (.ret (.int .i64 (.ofNat j))) none h := by
  obtain ⟨T0, hT⟩ : ∃ T0 : T V, T0 = T.ins und (.int .i64 (.ofNat 0)) (K.of 8) (T.ins und (.int .i64 (.ofNat e)) (K.of 7) (T.ins und (.sl b 0 e m 0) (K.of 6) (T.ins und (.int .i64 (.ofNat 0)) (K.of 4) (T.ins und (.int .i64 (.ofNat (l.getD j 0))) (K.of 1) (T.ins und (.sl b 0 e m 0) (K.of 0) .l))))) := ⟨_, rfl⟩
  have S : X19 T0 b e m (l.getD j 0) 0 := by
    rw [hT]
    refine ⟨?_, ?_, ?_, ?_⟩ <;> simp -implicitDefEqProofs only [get_ins, eq_self, Nat.reduceEqDiff, reduceCtorEq, ↓reduceIte]
  obtain ⟨t1, r, ee⟩ := loop19 hj he hm hd hb j 0 T0 (.mk [] none) (.mk 19 none) (by omega) S
  intro L n kc hL
  rw [call_fn fn19, c19, r19, p19_0, p19_1, p19_2]
  simp -implicitDefEqProofs only [↓normK_eq, ↓execK_eq, ↓opsK_eq, ↓bodyK_eq, ↓ops_all, putK_some, ↓exec_reg, ↓exec_seq, ↓exec_block, ↓iterK_normal, ↓iterK_ret, ↓blockK_ret, ↓opsRun_nil, kv_eq, ev_t, ev_c, get_ins, op_mv, op_len, putArgs_nil, putArgs_cons, fnEnd_ret, res_nil, res_t, one_one, eq_self, reduceCtorEq, ↓reduceIte, len_sl, Nat.reduceAdd, Nat.zero_add, exec_loop, ← hT, ee (show j < L + 1 by omega), r]

theorem slice_hi {b : K} {m e : Nat} (he : e ≤ m) (hm : (m = 0) = False) : oSlice (.sl b 0 m m 0) none (some (.int .i64 (.ofNat e))) none 1 h c = c (.sl b 0 e m 0) h := by
  have h1 : Nat.beq m 0 = false := by
    cases m with
    | zero => simp at hm
    | succ m => rfl
  have h2 : Nat.ble 0 e = true := Nat.ble_eq_true_of_le (Nat.zero_le _)
  simp only [oSlice, bnd, Nat.ble_eq_true_of_le he, cutC, h1, force_eq, Nat.zero_mul, Nat.add_zero, Nat.sub_zero]

/-! ### The fourth loop: the draws are read off -/
structure U6 (t : T V) (h : Hp) (m i : Nat) (l l' D : List Nat) (b5 b12 b13 : K) : Prop where
  t5 : T.get und (K.of 5) t = .sl b5 0 m m 0
  t12 : T.get und (K.of 12) t = .sl b12 0 m m 0
  t13 : T.get und (K.of 13) t = .sl b13 0 m m 0
  t15 : T.get und (K.of 15) t = .int .i64 (.ofNat i)
  m5 : blk h b5 = .cells (ints l')
  m12 : blk h b12 = .cells (ints D)
  m13 : blk h b13 = .cells (ints l)
  l5 : l'.length = m
  l12 : D.length = m
  l13 : l.length = m

theorem b6_3_done {I : Int} (hI : ltI I (.ofNat 1) = true) (ti : T.get und (K.of 15) t = .int .i64 I) (h : Hp) (d : Dc) (fi : FI) : ∃ t1, Kp [0, 1, 6, 12] t t1 ∧ ∀ {L n : Nat} {k : KE}, exec (call EzC (L + 1) (n + 1)) (L + 1) fi b6_3 t d h k = k (.exit 6) t1 d h := by
  refine ⟨?t1, ?S, fun {L n k} => ?e⟩
  case e =>
    rw [b6_3]
    simp -implicitDefEqProofs only [↓normK_eq, ↓execK_eq, ↓opsK_eq, isT_bool, isF_bool, ↓ops_all, putK_some, ↓exec_reg, ↓exec_seq, ↓exec_cond, ↓exec_exit, ↓iterK_normal, ↓iterK_exit, ↓opsRun_nil, kv_eq, ev_t, ev_c, get_ins, op_mv, op_ibin, ib_geq_i64, eq_self, Bool.not_true, Bool.not_false, Bool.false_eq_true, ↓reduceIte, ti, hI]
    rfl
  case S => simp -implicitDefEqProofs only [Kp, List.mem_cons, List.not_mem_nil, or_false, forall_eq_or_imp, forall_eq, get_ins, eq_self, Nat.reduceEqDiff, reduceCtorEq, ↓reduceIte, and_self]

theorem b6_3_step {m i kk : Nat} {l l' D : List Nat} {b5 b12 b13 : K} (hi : i + 1 < m) (hm : m ≤ 4000) (hk : kk < i + 2) (hd : Dis l) (hv : l'.getD (i + 1) 0 = l.getD kk 0) (S : U6 t h m (i + 1) l l' D b5 b12 b13) (n1 : (b12 = b13) = False) (n2 : (b5 = b13) = False) (n3 : (b5 = b12) = False) (n4 : (b13 = b12) = False) (d : Dc) (fi : FI) :
    ∃ t1 h1, Kp [0, 1, 6, 12] t t1 ∧ U6 t1 h1 m i (swp l (i + 1) kk) l' (D.set (i + 1) kk) b5 b12 b13 ∧ nxt h1 = nxt h ∧ (∀ c, c ≠ b12 → c ≠ b13 → blk h1 c = blk h c) ∧
      ∀ {L n : Nat} {k : KE}, m ≤ L → exec (call EzC (L + 1) (n + 1)) (L + 1) fi b6_3 t d h k = k .normal t1 d h1 := by
  have e5 := S.l5
  have e12 := S.l12
  have e13 := S.l13
  have f1 : ltI (.ofNat (i + 1)) (.ofNat 1) = false := by rw [ltI_ofNat, decide_eq_false (by omega)]
  have f2 : wrapI .i64 (.ofNat (i + 1 + 1)) = .ofNat (i + 2) := wrap_i64 (by omega)
  have f3 : wrapI .i64 (Int.sub (.ofNat (i + 1)) (.ofNat 1)) = .ofNat i := by rw [sub_ofNat (by omega), wrap_i64 (by omega)]; rfl
  have f4 : (kk < 0) = False := eq_false (by omega)
  have g1 : (i + 1 < m) = True := eq_true hi
  have g2 : (kk < m) = True := eq_true (by omega)
  have q0 : ∀ (h : Hp) (c : KV), ldB (.cells (ints l')) (i + 1) h c = c (.int .i64 (.ofNat (l.getD kk 0))) h := fun h c => by rw [← hv]; exact ldB_ints (by omega)
  have q1 : ∀ (h : Hp) (c : KV), ldB (.cells (ints l)) (i + 1) h c = c (.int .i64 (.ofNat (l.getD (i + 1) 0))) h := fun h c => ldB_ints (by omega)
  have q2 : ∀ (h : Hp) (c : KV), ldB (.cells (ints l)) kk h c = c (.int .i64 (.ofNat (l.getD kk 0))) h := fun h c => ldB_ints (by omega)
  have q3 : ∀ (h : Hp) (f : Hp → Bool), stB (.cells (ints l)) b13 (i + 1) [.int .i64 (.ofNat (l.getD kk 0))] h f = f (h.upd b13 (.cells (ints (l.set (i + 1) (l.getD kk 0))))) := fun h f => stB_ints (by omega)
  have q4 : ∀ (h : Hp) (f : Hp → Bool), stB (.cells (ints (l.set (i + 1) (l.getD kk 0)))) b13 kk [.int .i64 (.ofNat (l.getD (i + 1) 0))] h f = f (h.upd b13 (.cells (ints (swp l (i + 1) kk)))) := fun h f => by
    rw [stB_ints (by rw [List.length_set]; omega)]; rfl
  have q5 : ∀ (h : Hp) (f : Hp → Bool), stB (.cells (ints D)) b12 (i + 1) [.int .i64 (.ofNat kk)] h f = f (h.upd b12 (.cells (ints (D.set (i + 1) kk)))) := fun h f => stB_ints (by omega)
  have es : ∀ (h : Hp) (c : KV), oSlice (.sl b13 0 m m 0) none (some (.int .i64 (.ofNat (i + 2)))) none 1 h c = c (.sl b13 0 (i + 2) m 0) h := fun h c => slice_hi (by omega) (eq_false (by omega))
  have ex : ∀ {L n : Nat} {kc : KC}, m ≤ L → call EzC (L + 1) (n + 1) (.fn 19) [.sl b13 0 (i + 2) m 0, .int .i64 (.ofNat (l.getD kk 0))] none h kc = kc (.ret (.int .i64 (.ofNat kk))) none h := fun hL => call19 hk (by omega) (by omega) hd S.m13 (by omega)
  refine ⟨?t1, ?h1, ?K, ?S, ?N, ?O, fun {L n k} hL => ?e⟩
  case e =>
    rw [b6_3]
    simp -implicitDefEqProofs only [↓normK_eq, ↓execK_eq, ↓opsK_eq, ↓stagesK_eq, callK_eq, isV_eq, isT_bool, isF_bool, ↓ops_all, putK_some, putK_none, ↓draw_cons, ↓drawK_none, ↓drawK_some, chk_all, ↓exec_skip, ↓exec_reg, ↓exec_draw, ↓exec_seq, ↓exec_cond, ↓exec_block, ↓iterK_normal, ↓blockK_normal, ↓opsRun_nil, kv_eq, kh_eq, ev_t, ev_c, evs_nil, evs_cons, evo_none, evo_some, get_ins, op_mv, op_load1, op_ibin, op_idx, op_store, op_slice, op_call, callEnd_ret, ↓draw_nil, chkAll_nil, chkAll_cons, chk_mv, chk_load1, chk_ibin, chk_idx, veq_int, kEq_refl, veq_ptr, veq_sl, beqI_self, ib_add_i64, ib_sub_i64, ib_lss_i64, ib_geq_i64, add_ofNat, ltI_ofNat, upd_same, eq_self, Nat.reduceEqDiff, Bool.not_false, Bool.false_eq_true, Bool.and_self, ↓reduceIte, ld_ptr, st_int, idx_nat, blk_upd, upd_upd, Nat.zero_add, Nat.mul_one, S.t5, S.t12, S.t13, S.t15, S.m5, S.m12, S.m13, f1, f2, f3, f4, g1, g2, q0, q1, q2, q3, q4, q5, es, ex hL, n4, decide_false]
    rfl
  case K => simp -implicitDefEqProofs only [Kp, List.mem_cons, List.not_mem_nil, or_false, forall_eq_or_imp, forall_eq, get_ins, eq_self, Nat.reduceEqDiff, reduceCtorEq, ↓reduceIte, and_self]
  case S =>
    refine ⟨?_, ?_, ?_, ?_, ?_, ?_, upd_same, e5, by rw [List.length_set]; exact e12, by rw [swp_length]; exact e13⟩
    · simp -implicitDefEqProofs only [get_ins, eq_self, Nat.reduceEqDiff, ↓reduceIte, S.t5]
    · simp -implicitDefEqProofs only [get_ins, eq_self, Nat.reduceEqDiff, ↓reduceIte, S.t12]
    · simp -implicitDefEqProofs only [get_ins, eq_self, Nat.reduceEqDiff, ↓reduceIte, S.t13]
    · simp -implicitDefEqProofs only [get_ins, eq_self, ↓reduceIte]
    · rw [upd_other (of_eq_false n2), upd_other (of_eq_false n3)]; exact S.m5
    · rw [upd_other (of_eq_false n1), upd_same]
  case N => simp only [nxt_upd]
  case O => intro c c1 c2; rw [upd_other c2, upd_other c1]

end
end Go.AJ

