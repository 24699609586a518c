/- SimulOrders. -/
import Derived.Test.YtflhojkjjlfegaaGreatDoorL28p
namespace Go.AJ
open Go Go.Proofs
set_option maxRecDepth 100000

section
variable {L n : Nat} {h : Hp} {kc : KC} {t : T V} {d : Dc} {k : KE} {fi : FI} {c : KV}

theorem loop6_3 {J m : Nat} (hm : m ≤ 4000) {b5 b12 b13 : K} (n1 : (b12 = b13) = False) (n2 : (b5 = b13) = False) (n3 : (b5 = b12) = False) (n4 : (b13 = b12) = False) {i : Nat} {l : List Nat} {x : Nat} {l' : List Nat} {y : Nat} (hs : ShR J i l x l' y) :
    ∀ (t : T V) (h : Hp) (D : List Nat) (d : Dc) (fi : FI), i < m → Dis l → U6 t h m i l l' D b5 b12 b13 →
    ∃ t1 h1 D', Kp [0, 1, 6, 12] t t1 ∧ nxt h1 = nxt h ∧ (∀ c, c ≠ b12 → c ≠ b13 → blk h1 c = blk h c) ∧ blk h1 b12 = .cells (ints D') ∧ D'.length = m ∧ ShD J D' i x y ∧ (∀ q, i < q → D'.getD q 0 = D.getD q 0) ∧
      ∀ {L n M : Nat} {k : KE}, m ≤ L → i < M → iter (exec (call EzC (L + 1) (n + 1)) (L + 1) fi b6_3) M t d h k = k (.exit 6) t1 d h1 := by
  induction hs with
  | done l x =>
    intro t h D d fi hi hd U
    obtain ⟨t1, K1, e⟩ := b6_3_done (by rw [ltI_ofNat]; rfl) U.t15 h d fi
    refine ⟨t1, h, D, K1, rfl, fun _ _ _ => rfl, U.m12, U.l12, .done x, fun _ _ => rfl, fun {L n M k} hL hM => ?_⟩
    obtain ⟨q, rfl⟩ : ∃ q, M = q + 1 := ⟨M - 1, by omega⟩
    rw [iter_succ, e, iterK_exit]
  | step i l x j x1 l' y hj hf hs ih =>
    intro t h D d fi hi hd U
    have hl := U.l13
    have hk : outg x1 % (i + 2) < i + 2 := Nat.mod_lt _ (by omega)
    obtain ⟨t1, h1, K1, U1, N1, O1, e⟩ := b6_3_step hi hm hk hd (shR_at hs (by omega) hk) U n1 n2 n3 n4 d fi
    obtain ⟨t2, h2, D', K2, N2, O2, m2, l2, s2, g2, e2⟩ := ih t1 h1 _ d fi (by omega) (hd.swp (by omega) (by omega)) U1
    refine ⟨t2, h2, D', K1.trans K2, N2.trans N1, fun c c1 c2 => (O2 c c1 c2).trans (O1 c c1 c2), m2, l2, .step i x j x1 y hj hf ?_ s2, fun q hq => ?_, fun {L n M k} hL hM => ?_⟩
    · rw [g2 (i + 1) (by omega), List.getD_eq_getElem?_getD, List.getElem?_set, if_pos rfl, if_pos (by rw [U.l12]; omega)]; rfl
    · rw [g2 q (by omega), List.getD_eq_getElem?_getD, List.getElem?_set, if_neg (by omega), ← List.getD_eq_getElem?_getD]
    · obtain ⟨q, rfl⟩ : ∃ q, M = q + 1 := ⟨M - 1, by omega⟩
      rw [iter_succ, e hL, iterK_normal, e2 hL (by omega)]

/-! ### The fifth loop: the draws once more -/
structure V6 (t : T V) (h : Hp) (m x : Nat) (D : List Nat) (b12 : K) : Prop where
  t0 : T.get und (K.of 0) t = .int .u64 (.ofNat x)
  t12 : T.get und (K.of 12) t = .sl b12 0 m m 0
  m12 : blk h b12 = .cells (ints D)
  l12 : D.length = m
  n12 : b12.num < (nxt h).num

theorem b6_4_done {x : Nat} {I : Int} (hI : ltI I (.ofNat 1) = true) (ti : T.get und (K.of 17) t = .int .i64 I) (t0 : T.get und (K.of 0) t = .int .u64 (.ofNat x)) (h : Hp) (d : Dc) (fi : FI) :
    ∃ t1, T.get und (K.of 0) t1 = .int .u64 (.ofNat x) ∧ Kp [6] t t1 ∧ ∀ {L n : Nat} {k : KE}, exec (call EzC (L + 1) (n + 3)) (L + 1) fi b6_4 t d h k = k (.exit 8) t1 d h := by
  refine ⟨?t1, ?T, ?S, fun {L n k} => ?e⟩
  case e =>
    rw [b6_4]
    simp -implicitDefEqProofs only [↓normK_eq, ↓execK_eq, ↓opsK_eq, isT_bool, isF_bool, ↓ops_all, putK_some, ↓exec_reg, ↓exec_seq, ↓exec_cond, ↓exec_exit, ↓iterK_normal, ↓iterK_exit, ↓opsRun_nil, kv_eq, ev_t, ev_c, get_ins, op_mv, op_ibin, ib_geq_i64, eq_self, Bool.not_true, Bool.not_false, Bool.false_eq_true, ↓reduceIte, ti, hI]
    rfl
  case T => simp -implicitDefEqProofs only [get_ins, eq_self, reduceCtorEq, ↓reduceIte, t0]
  case S => simp -implicitDefEqProofs only [Kp, List.mem_cons, List.not_mem_nil, or_false, forall_eq, get_ins, eq_self, Nat.reduceEqDiff, ↓reduceIte]

theorem b6_4_step {m i j x x1 : Nat} {D : List Nat} {b12 : K} (hi : i + 1 < m) (hm : m ≤ 4000) (hf : Found (i + 2) j x x1) (hD : D.getD (i + 1) 0 = outg x1 % (i + 2)) (ti : T.get und (K.of 17) t = .int .i64 (.ofNat (i + 1))) (S : V6 t h m x D b12) (d : Dc) (fi : FI) :
    ∃ t1 h1, T.get und (K.of 17) t1 = .int .i64 (.ofNat i) ∧ Kp [6] t t1 ∧ V6 t1 h1 m x1 D b12 ∧ Keeps h h1 ∧ ∀ {L n : Nat} {k : KE}, j ≤ L → exec (call EzC (L + 1) (n + 3)) (L + 1) fi b6_4 t d h k = k .normal t1 d h1 := by
  obtain ⟨kk, hkk⟩ : ∃ kk, kk = outg x1 % (i + 2) := ⟨_, rfl⟩
  rw [← hkk] at hD
  have e12 := S.l12
  have f1 : ltI (.ofNat (i + 1)) (.ofNat 1) = false := by rw [ltI_ofNat, decide_eq_false (by omega)]
  have f2 : wrapI .i64 (.ofNat (i + 1 + 1)) = .ofNat (i + 2) := wrap_i64 (by omega)
  have f3 : wrapI .i64 (Int.sub (.ofNat (i + 1)) (.ofNat 1)) = .ofNat i := by rw [sub_ofNat (by omega), wrap_i64 (by omega)]; rfl
  have g1 : (i + 1 < m) = True := eq_true hi
  have q0 : ∀ (h : Hp) (c : KV), ldB (.cells (ints D)) (i + 1) h c = c (.int .i64 (.ofNat kk)) h := fun h c => by rw [← hD]; exact ldB_ints (by omega)
  obtain ⟨h1, K1, e8⟩ : ∃ h1, Keeps h h1 ∧ ∀ {L n : Nat} {kc : KC}, j ≤ L → call EzC (L + 1) (n + 3) (.fn 8) [.int .u64 (.ofNat x), .int .i64 (.ofNat (i + 2))] none h kc = kc (.ret (.tup [.int .i64 (.ofNat kk), .int .u64 (.ofNat x1), .int .i64 (.ofNat 0)])) none h1 :=
    ⟨_, (Keeps.refl h).new _, fun {L n kc} hj => by rw [hkk]; exact call8 (by omega) (by omega) hf hj⟩
  have m1 : blk h1 b12 = .cells (ints D) := (K1.old _ S.n12).trans S.m12
  refine ⟨?t1, h1, ?T, ?K, ?S, K1, fun {L n k} hj => ?e⟩
  case e =>
    rw [b6_4]
    simp -implicitDefEqProofs only [↓normK_eq, ↓execK_eq, ↓opsK_eq, callK_eq, isT_bool, isF_bool, ↓ops_all, ↓ops_some, putK_some, ↓exec_skip, ↓exec_reg, ↓exec_seq, ↓exec_cond, ↓exec_block, ↓iterK_normal, ↓blockK_normal, ↓opsRun_nil, wantB_bool, kv_eq, ev_t, ev_c, evs_nil, evs_cons, get_ins, op_mv, op_pick, op_load1, op_ibin, op_idx, op_ext, op_call, callEnd_ret, pick_bool, beqI_self, ib_add_i64, ib_sub_i64, ib_neq_i64, ib_geq_i64, add_ofNat, ext_tup0, ext_tup1, ext_tup2, eq_self, Nat.reduceEqDiff, reduceCtorEq, Bool.not_true, Bool.not_false, Bool.false_eq_true, beq_self_eq_true, ↓reduceIte, ld_ptr, idx_nat, Nat.zero_add, Nat.mul_one, ti, S.t0, S.t12, m1, f1, f2, f3, g1, q0, e8 hj]
    rfl
  case T => simp -implicitDefEqProofs only [get_ins, eq_self, ↓reduceIte]
  case K => simp -implicitDefEqProofs only [Kp, List.mem_cons, List.not_mem_nil, or_false, forall_eq, get_ins, eq_self, Nat.reduceEqDiff, reduceCtorEq, ↓reduceIte]
  case S =>
    refine ⟨?_, ?_, m1, e12, Nat.lt_of_lt_of_le S.n12 K1.nx⟩ <;> simp -implicitDefEqProofs only [get_ins, eq_self, Nat.reduceEqDiff, reduceCtorEq, ↓reduceIte, S.t12]

theorem loop6_4 {J m : Nat} (hm : m ≤ 4000) {b12 : K} {D : List Nat} {i x y : Nat} (hs : ShD J D i x y) : ∀ (t : T V) (h : Hp) (d : Dc) (fi : FI), i < m → T.get und (K.of 17) t = .int .i64 (.ofNat i) → V6 t h m x D b12 →
    ∃ t1 h1, T.get und (K.of 0) t1 = .int .u64 (.ofNat y) ∧ Kp [6] t t1 ∧ ∀ {L n M : Nat} {k : KE}, J ≤ L → i < M → iter (exec (call EzC (L + 1) (n + 3)) (L + 1) fi b6_4) M t d h k = k (.exit 8) t1 d h1 := by
  induction hs with
  | done x =>
    intro t h d fi hi ti S
    obtain ⟨t1, r0, K1, e⟩ := b6_4_done (by rw [ltI_ofNat]; rfl) ti S.t0 h d fi
    refine ⟨t1, h, r0, K1, fun {L n M k} hJ hM => ?_⟩
    obtain ⟨q, rfl⟩ : ∃ q, M = q + 1 := ⟨M - 1, by omega⟩
    rw [iter_succ, e, iterK_exit]
  | step i x j x1 y hj hf hD hs ih =>
    intro t h d fi hi ti S
    obtain ⟨t1, h1, ti1, K1, S1, _, e⟩ := b6_4_step hi hm hf hD ti S d fi
    obtain ⟨t2, h2, r0, K2, e2⟩ := ih t1 h1 d fi (by omega) ti1 S1
    refine ⟨t2, h2, r0, K1.trans K2, fun {L n M k} hJ hM => ?_⟩
    obtain ⟨q, rfl⟩ : ∃ q, M = q + 1 := ⟨M - 1, by omega⟩
    rw [iter_succ, e (by omega), iterK_normal, e2 hJ (by omega)]

theorem law6_bad {x : V} {a : Int} (ha : ltI a (.ofNat 0) = true ∨ ltI (.ofNat 4000) a = true)
    (e14 : ∀ kc, call EzC (L + 1) (n + 3) (.fn 14) [x, .int .i64 a] none h kc = kc (.ret (.tup [.nils, .int .u64 (.ofNat 0), .int .i64 (.ofNat 1)])) none h) :
    call EzC (L + 1) (n + 4) (.fn 6) [x, .int .i64 a] none h kc = kc (.ret (.bool true)) none h := by
  rw [call_fn fn6, c6, r6, p6_0, p6_1, p6_2, p6_3, p6_4, p6_5, p6_6, p6_7, p6_8, p6_9, p6_10, p6_11, p6_12, p6_13]
  by_cases h1 : ltI a (.ofNat 0) = true
  · simp -implicitDefEqProofs only [↓normK_eq, ↓execK_eq, ↓opsK_eq, callK_eq, isT_bool, isF_bool, ↓bodyK_eq, ↓ops_all, ↓ops_some, putK_some, ↓exec_skip, ↓exec_reg, ↓exec_seq, ↓exec_cond, ↓exec_ret, ↓iterK_normal, ↓iterK_ret, ↓opsRun_nil, wantB_bool, kv_eq, ev_t, ev_c, evs_nil, evs_cons, get_ins, op_mv, op_pick, op_ibin, op_not, op_ext, op_call, callEnd_ret, pick_bool, beqI_self, ib_eql_i64, ib_lss_i64, not_bool, ext_tup0, ext_tup1, ext_tup2, putArgs_nil, putArgs_cons, fnEnd_ret, res_nil, res_t, one_one, eq_self, Nat.reduceEqDiff, reduceCtorEq, Bool.not_true, Bool.not_false, Bool.false_eq_true, Bool.true_beq, ↓reduceIte, call7', e14, h1]
  · have h2 := ha.resolve_left h1
    have h1 : ltI a (.ofNat 0) = false := by simpa using h1
    simp -implicitDefEqProofs only [↓normK_eq, ↓execK_eq, ↓opsK_eq, callK_eq, isT_bool, isF_bool, ↓bodyK_eq, ↓ops_all, ↓ops_some, putK_some, ↓exec_skip, ↓exec_reg, ↓exec_seq, ↓exec_cond, ↓exec_ret, ↓iterK_normal, ↓iterK_ret, ↓opsRun_nil, wantB_bool, kv_eq, ev_t, ev_c, evs_nil, evs_cons, get_ins, op_mv, op_pick, op_ibin, op_not, op_ext, op_call, callEnd_ret, pick_bool, beqI_self, ib_eql_i64, ib_lss_i64, ib_gtr_i64, not_bool, ext_tup0, ext_tup1, ext_tup2, putArgs_nil, putArgs_cons, fnEnd_ret, res_nil, res_t, one_one, eq_self, Nat.reduceEqDiff, reduceCtorEq, Bool.not_true, Bool.not_false, Bool.false_eq_true, beq_self_eq_true, ↓reduceIte, call7', e14, h1, h2]

end
end Go.AJ

