/- SimulOrders, whole. -/
import Derived.Test.YtflhojkjjlfegaaGreatDoorL28q
namespace Go.AJ
open Go Go.Proofs
set_option maxRecDepth 100000

section
variable {L n : Nat} {h : Hp} {kc : KC} {t : T V} {d : Dc} {k : KE} {fi : FI} {c : KV}

theorem mks_zs {m : Nat} (hm : m ≤ 4000) {h : Hp} {c : KV} : oMkslice (.int .i64 (.ofNat m)) (.int .i64 (.ofNat m)) [.int .i64 (.ofNat 0)] 8 h c = c (.sl (nxt h) 0 m m 0) (h.upd (nxt h) (.cells (zs (List.replicate m 0)))).bump := by
  rw [mks_nat (by omega), rep_zs]

theorem mks_is {m : Nat} (hm : m ≤ 4000) {h : Hp} {c : KV} : oMkslice (.int .i64 (.ofNat m)) (.int .i64 (.ofNat m)) [.int .i64 (.ofNat 0)] 8 h c = c (.sl (nxt h) 0 m m 0) (h.upd (nxt h) (.cells (ints (List.replicate m 0)))).bump := by
  rw [mks_nat (by omega), rep_ints]

theorem pre6 {x y m : Nat} {h h1 : Hp} {b5 : K} (hm : m ≤ 4000) (h0 : T.get und (K.of 0) t = .int .u64 (.ofNat x)) (t1 : T.get und (K.of 1) t = .int .i64 (.ofNat m))
    {J : Nat} (e14 : ∀ {L n : Nat} {kc : KC}, J ≤ L → m ≤ L → call EzC (L + 1) (n + 3) (.fn 14) [.int .u64 (.ofNat x), .int .i64 (.ofNat m)] none h kc = kc (.ret (.tup [.sl b5 0 m m 0, .int .u64 (.ofNat y), .int .i64 (.ofNat 0)])) none h1) (d : Dc) (fi : FI) :
    ∃ t2, P6 t2 (h1.upd (nxt h1) (.cells (zs (List.replicate m 0)))).bump m 0 (List.replicate m 0) (nxt h1) ∧ T.get und (K.of 0) t2 = .int .u64 (.ofNat x) ∧ T.get und (K.of 1) t2 = .int .i64 (.ofNat m) ∧ T.get und (K.of 5) t2 = .sl b5 0 m m 0 ∧ T.get und (K.of 6) t2 = .int .u64 (.ofNat y) ∧
      ∀ {L n : Nat} {R : ACode} {k : KE}, J ≤ L → m ≤ L → exec (call EzC (L + 1) (n + 3)) (L + 1) fi (.seq p6_0 (.seq p6_1 (.seq p6_2 (.seq p6_3 (.seq p6_4 (.seq p6_5 (.seq p6_6 R))))))) t d h k =
        iter (exec (call EzC (L + 1) (n + 3)) (L + 1) fi b6_0) (L + 1) t2 d (h1.upd (nxt h1) (.cells (zs (List.replicate m 0)))).bump (blockK 0 (iterK (execK (call EzC (L + 1) (n + 3)) (L + 1) fi R k) k)) := by
  have f1 : (m < 0) = False := eq_false (by omega)
  have f2 : (4000 < m) = False := eq_false (by omega)
  have em : ∀ (h : Hp) (c : KV), oMkslice (.int .i64 (.ofNat m)) (.int .i64 (.ofNat m)) [.int .i64 (.ofNat 0)] 8 h c = c (.sl (nxt h) 0 m m 0) (h.upd (nxt h) (.cells (zs (List.replicate m 0)))).bump := fun h c => mks_zs hm
  refine ⟨?t2, ?P, ?a0, ?a1, ?a5, ?a6, fun {L n R k} hJ hL => ?e⟩
  case e =>
    rw [p6_0, p6_1, p6_2, p6_3, p6_4, p6_5, p6_6]
    simp -implicitDefEqProofs only [↓normK_eq, ↓execK_eq, ↓opsK_eq, callK_eq, isT_bool, isF_bool, ↓ops_all, ↓ops_some, putK_some, ↓exec_skip, ↓exec_reg, ↓exec_seq, ↓exec_cond, ↓exec_block, ↓iterK_normal, ↓opsRun_nil, wantB_bool, kv_eq, ev_t, ev_c, evs_nil, evs_cons, get_ins, op_mv, op_pick, op_ibin, op_not, op_ext, op_mkslice, op_len, op_call, callEnd_ret, pick_bool, beqI_self, ib_neq_i64, ib_lss_i64, ib_gtr_i64, ltI_ofNat, not_bool, ext_tup0, ext_tup1, ext_tup2, eq_self, Nat.reduceEqDiff, reduceCtorEq, Bool.not_true, Bool.not_false, Bool.false_eq_true, beq_self_eq_true, ↓reduceIte, len_sl, h0, t1, call7', e14 hJ hL, f1, f2, em, decide_false, exec_loop]
    rfl
  case P =>
    refine ⟨?_, ?_, ?_, by rw [blk_bump, upd_same], by simp⟩ <;> simp -implicitDefEqProofs only [get_ins, eq_self, Nat.reduceEqDiff, ↓reduceIte]
  case a0 => simp -implicitDefEqProofs only [get_ins, eq_self, reduceCtorEq, ↓reduceIte, h0]
  case a1 => simp -implicitDefEqProofs only [get_ins, eq_self, Nat.reduceEqDiff, ↓reduceIte, t1]
  case a5 => simp -implicitDefEqProofs only [get_ins, eq_self, Nat.reduceEqDiff, ↓reduceIte]
  case a6 => simp -implicitDefEqProofs only [get_ins, eq_self, Nat.reduceEqDiff, ↓reduceIte]

theorem mid6_7 {m : Nat} {l : List Nat} {pz : List Int} {b5 b8 : K} (t1 : T.get und (K.of 1) t = .int .i64 (.ofNat m)) (t5 : T.get und (K.of 5) t = .sl b5 0 m m 0) (t8 : T.get und (K.of 8) t = .sl b8 0 m m 0) (m5 : blk h b5 = .cells (ints l)) (m8 : blk h b8 = .cells (zs pz)) (len : pz.length = m) (d : Dc) (fi : FI) :
    ∃ t2, Q6 t2 h m 0 l pz b5 b8 ∧ Kp [0, 1, 5, 6] t t2 ∧ ∀ {L n : Nat} {R : ACode} {k : KE}, exec (call EzC (L + 1) n) (L + 1) fi (.seq p6_7 R) t d h k =
        iter (exec (call EzC (L + 1) n) (L + 1) fi b6_1) (L + 1) t2 d h (blockK 2 (iterK (execK (call EzC (L + 1) n) (L + 1) fi R k) k)) := by
  refine ⟨?t2, ?Q, ?K, fun {L n R k} => ?e⟩
  case e =>
    rw [p6_7]
    simp -implicitDefEqProofs only [↓normK_eq, ↓execK_eq, ↓opsK_eq, ↓ops_all, putK_some, ↓exec_reg, ↓exec_seq, ↓exec_block, ↓iterK_normal, ↓opsRun_nil, kv_eq, ev_t, ev_c, get_ins, op_mv, op_len, eq_self, ↓reduceIte, len_sl, t5, exec_loop]
    rfl
  case Q => refine ⟨?_, ?_, ?_, ?_, ?_, m5, m8, len⟩ <;> simp -implicitDefEqProofs only [get_ins, eq_self, Nat.reduceEqDiff, ↓reduceIte, t1, t8]
  case K => simp -implicitDefEqProofs only [Kp, List.mem_cons, List.not_mem_nil, or_false, forall_eq_or_imp, forall_eq, get_ins, eq_self, Nat.reduceEqDiff, reduceCtorEq, ↓reduceIte, and_self]

theorem mid6_10 {m : Nat} (hm : m ≤ 4000) (t1 : T.get und (K.of 1) t = .int .i64 (.ofNat m)) (h : Hp) (d : Dc) (fi : FI) :
    ∃ t2 h2, R6 t2 h2 m 0 (nxt h).succ ∧ T.get und (K.of 12) t2 = .sl (nxt h) 0 m m 0 ∧ Kp [0, 1, 5, 6] t t2 ∧ Keeps h h2 ∧ nxt h2 = (nxt h).succ.succ ∧ blk h2 (nxt h) = .cells (ints (List.replicate m 0)) ∧
      ∀ {L n : Nat} {R : ACode} {k : KE}, exec (call EzC (L + 1) n) (L + 1) fi (.seq p6_8 (.seq p6_9 (.seq p6_10 R))) t d h k =
        iter (exec (call EzC (L + 1) n) (L + 1) fi b6_2) (L + 1) t2 d h2 (blockK 4 (iterK (execK (call EzC (L + 1) n) (L + 1) fi R k) k)) := by
  have em : ∀ (h : Hp) (c : KV), oMkslice (.int .i64 (.ofNat m)) (.int .i64 (.ofNat m)) [.int .i64 (.ofNat 0)] 8 h c = c (.sl (nxt h) 0 m m 0) (h.upd (nxt h) (.cells (ints (List.replicate m 0)))).bump := fun h c => mks_is hm
  refine ⟨?t2, ?h2, ?Q, ?T, ?K, ?H, ?N, ?B, fun {L n R k} => ?e⟩
  case e =>
    rw [p6_8, p6_9, p6_10]
    simp -implicitDefEqProofs only [↓normK_eq, ↓execK_eq, ↓opsK_eq, ↓ops_all, putK_some, ↓exec_reg, ↓exec_seq, ↓exec_block, ↓iterK_normal, ↓opsRun_nil, kv_eq, ev_t, ev_c, get_ins, op_mv, op_mkslice, op_len, eq_self, Nat.reduceEqDiff, nxt_upd, nxt_bump, ↓reduceIte, len_sl, bump_upd, t1, em, exec_loop]
    rfl
  case Q => refine ⟨?_, ?_, ?_, ?_⟩ <;> simp -implicitDefEqProofs only [get_ins, upd_same, eq_self, Nat.reduceEqDiff, ↓reduceIte, blk_bump, rg_zero]
  case T => simp -implicitDefEqProofs only [get_ins, eq_self, Nat.reduceEqDiff, ↓reduceIte]
  case K => simp -implicitDefEqProofs only [Kp, List.mem_cons, List.not_mem_nil, or_false, forall_eq_or_imp, forall_eq, get_ins, eq_self, Nat.reduceEqDiff, reduceCtorEq, ↓reduceIte, and_self]
  case H =>
    constructor
    · simp only [nxt_bump, nxt_upd, K.num_succ]; omega
    · intro b hb
      have e1 : (b = nxt h) = False := eq_false fun e => by subst e; omega
      have e2 : (b = (nxt h).succ) = False := eq_false fun e => by subst e; rw [K.num_succ] at hb; omega
      simp only [blk_bump, blk_upd, e1, e2, if_false]
  case N => simp only [nxt_bump, nxt_upd]
  case B => simp -implicitDefEqProofs only [upd_same, eq_self, ↓reduceIte, blk_bump, blk_upd, K.self_ne_succ]

theorem mid6_11 {m : Nat} {I : Int} (t1 : T.get und (K.of 1) t = .int .i64 (.ofNat m)) (hI : wrapI .i64 (Int.sub (.ofNat m) (.ofNat 1)) = I) (h : Hp) (d : Dc) (fi : FI) :
    ∃ t2, T.get und (K.of 15) t2 = .int .i64 I ∧ Kp [0, 1, 5, 6, 12, 13] t t2 ∧ ∀ {L n : Nat} {R : ACode} {k : KE}, exec (call EzC (L + 1) n) (L + 1) fi (.seq p6_11 R) t d h k =
        iter (exec (call EzC (L + 1) n) (L + 1) fi b6_3) (L + 1) t2 d h (blockK 6 (iterK (execK (call EzC (L + 1) n) (L + 1) fi R k) k)) := by
  refine ⟨?t2, ?Q, ?K, fun {L n R k} => ?e⟩
  case e =>
    rw [p6_11]
    simp -implicitDefEqProofs only [↓normK_eq, ↓execK_eq, ↓opsK_eq, ↓ops_all, putK_some, ↓exec_reg, ↓exec_seq, ↓exec_block, ↓iterK_normal, ↓opsRun_nil, kv_eq, ev_t, ev_c, get_ins, op_mv, op_ibin, ib_sub_i64, eq_self, ↓reduceIte, t1, hI, exec_loop]
    rfl
  case Q => simp -implicitDefEqProofs only [get_ins, eq_self, ↓reduceIte]
  case K => simp -implicitDefEqProofs only [Kp, List.mem_cons, List.not_mem_nil, or_false, forall_eq_or_imp, forall_eq, get_ins, eq_self, Nat.reduceEqDiff, reduceCtorEq, ↓reduceIte, and_self]

theorem mid6_12 {m : Nat} {I : Int} (t1 : T.get und (K.of 1) t = .int .i64 (.ofNat m)) (hI : wrapI .i64 (Int.sub (.ofNat m) (.ofNat 1)) = I) (h : Hp) (d : Dc) (fi : FI) :
    ∃ t2, T.get und (K.of 17) t2 = .int .i64 I ∧ Kp [0, 6, 12] t t2 ∧ ∀ {L n : Nat} {R : ACode} {k : KE}, exec (call EzC (L + 1) n) (L + 1) fi (.seq p6_12 R) t d h k =
        iter (exec (call EzC (L + 1) n) (L + 1) fi b6_4) (L + 1) t2 d h (blockK 8 (iterK (execK (call EzC (L + 1) n) (L + 1) fi R k) k)) := by
  refine ⟨?t2, ?Q, ?K, fun {L n R k} => ?e⟩
  case e =>
    rw [p6_12]
    simp -implicitDefEqProofs only [↓normK_eq, ↓execK_eq, ↓opsK_eq, ↓ops_all, putK_some, ↓exec_reg, ↓exec_seq, ↓exec_block, ↓iterK_normal, ↓opsRun_nil, kv_eq, ev_t, ev_c, get_ins, op_mv, op_ibin, ib_sub_i64, eq_self, ↓reduceIte, t1, hI, exec_loop]
    rfl
  case Q => simp -implicitDefEqProofs only [get_ins, eq_self, ↓reduceIte]
  case K => simp -implicitDefEqProofs only [Kp, List.mem_cons, List.not_mem_nil, or_false, forall_eq_or_imp, forall_eq, get_ins, eq_self, Nat.reduceEqDiff, reduceCtorEq, ↓reduceIte, and_self]

theorem out_of (k1 k2 : K) (h : k1.num ≠ k2.num) : (k1 = k2) = False := eq_false fun e => h (by rw [e])

theorem law6_good {m x : Nat} (hm : m ≤ 4000) (h : Hp) : ∃ L n h', ∀ kc : KC, call EzC L n (.fn 6) [.int .u64 (.ofNat x), .int .i64 (.ofNat m)] none h kc = kc (.ret (.bool true)) none h' := by
  obtain ⟨J, l', y, hs⟩ := shR_ex (m - 1) (List.range m) x (by omega)
  obtain ⟨h1, b5, K1, m5, len5, _, hi5, e14⟩ := call14 hm hs h
  have hok := shR_ok hs (by rw [List.length_range]; omega)
  have hdis : Dis l' := hok.2.2.1 (dis_range m)
  have hund : Und m l' := hok.2.2.2 m (und_range m)
  obtain ⟨T0, hT⟩ : ∃ T0 : T V, T0 = T.ins und (.int .i64 (.ofNat m)) (K.of 1) (T.ins und (.int .u64 (.ofNat x)) (K.of 0) .l) := ⟨_, rfl⟩
  have q0 : T.get und (K.of 0) T0 = .int .u64 (.ofNat x) := by rw [hT]; simp -implicitDefEqProofs only [get_ins, eq_self, reduceCtorEq, ↓reduceIte]
  have q1 : T.get und (K.of 1) T0 = .int .i64 (.ofNat m) := by rw [hT]; simp -implicitDefEqProofs only [get_ins, eq_self, ↓reduceIte]
  obtain ⟨I, hI⟩ : ∃ I, wrapI .i64 (Int.sub (.ofNat m) (.ofNat 1)) = I := ⟨_, rfl⟩
  let dd : Dc := .mk [] none
  let ff : FI := .mk 6 none
  obtain ⟨t2, P2, a0, a1, a5, a6, ea⟩ := pre6 hm q0 q1 e14 dd ff
  obtain ⟨t3, h3, pz, K3, O3, m8, lz, z3, eb⟩ := loop6_0 hm m 0 t2 _ _ dd ff (by omega) P2 (fun a ha => by omega)
  have ne58 : b5 ≠ nxt h1 := fun e => by subst e; omega
  have m5c : blk h3 b5 = .cells (ints l') := by
    rw [O3.2 b5 ne58, blk_bump, upd_other ne58]; exact m5
  have c1 : T.get und (K.of 1) t3 = .int .i64 (.ofNat m) := (K3 1 (by simp)).trans a1
  have c5 : T.get und (K.of 5) t3 = .sl b5 0 m m 0 := (K3 5 (by simp)).trans a5
  have c8 : T.get und (K.of 8) t3 = .sl (nxt h1) 0 m m 0 := (K3 8 (by simp)).trans P2.t8
  obtain ⟨t4, Q4, K4, ec⟩ := mid6_7 c1 c5 c8 m5c m8 lz dd ff
  obtain ⟨t5, h5, K5, O5, ed⟩ := loop6_1 hm len5 hdis hund ne58 m 0 t4 h3 pz dd ff (by omega) Q4 (fun v hv _ => z3 v hv)
  have K35 : Kp [0, 1, 5, 6] t3 t5 := K4.trans K5
  have nx5 : nxt h5 = (nxt h1).succ := by rw [O5.1, O3.1, nxt_bump, nxt_upd]
  have m5e : blk h5 b5 = .cells (ints l') := (O5.2 b5 ne58).trans m5c
  obtain ⟨t6, h6, R6', r12, K6, Kh6, nx6, m12, ee⟩ := mid6_10 hm ((K35 1 (by simp)).trans c1) h5 dd ff
  obtain ⟨t7, h7, K7, O7, m13, ef⟩ := loop6_2 hm m 0 t6 h6 dd ff (by omega) R6'
  have n5 : b5.num < (nxt h5).num := by rw [nx5, K.num_succ]; omega
  have s0 : T.get und (K.of 0) t7 = .int .u64 (.ofNat x) := (K7 0 (by simp)).trans ((K6 0 (by simp)).trans ((K35 0 (by simp)).trans ((K3 0 (by simp)).trans a0)))
  have s1 : T.get und (K.of 1) t7 = .int .i64 (.ofNat m) := (K7 1 (by simp)).trans ((K6 1 (by simp)).trans ((K35 1 (by simp)).trans c1))
  have s5 : T.get und (K.of 5) t7 = .sl b5 0 m m 0 := (K7 5 (by simp)).trans ((K6 5 (by simp)).trans ((K35 5 (by simp)).trans c5))
  have s6 : T.get und (K.of 6) t7 = .int .u64 (.ofNat y) := (K7 6 (by simp)).trans ((K6 6 (by simp)).trans ((K35 6 (by simp)).trans ((K3 6 (by simp)).trans a6)))
  have s12 : T.get und (K.of 12) t7 = .sl (nxt h5) 0 m m 0 := (K7 12 (by simp)).trans r12
  have s13 : T.get und (K.of 13) t7 = .sl (nxt h5).succ 0 m m 0 := (K7 13 (by simp)).trans R6'.t13
  have n1 : (nxt h5 = (nxt h5).succ) = False := K.self_ne_succ _
  have n4 : ((nxt h5).succ = nxt h5) = False := K.succ_ne_self _
  have n2 : (b5 = (nxt h5).succ) = False := out_of _ _ (by rw [K.num_succ]; omega)
  have n3 : (b5 = nxt h5) = False := out_of _ _ (by omega)
  have m5g : blk h7 b5 = .cells (ints l') := (O7.2 b5 (of_eq_false n2)).trans ((Kh6.old _ n5).trans m5e)
  have m12g : blk h7 (nxt h5) = .cells (ints (List.replicate m 0)) := (O7.2 _ (of_eq_false n1)).trans m12
  obtain ⟨t8, u15, K8, eg⟩ := mid6_11 s1 hI h7 dd ff
  have v0 := (K8 0 (by simp)).trans s0
  have v1 := (K8 1 (by simp)).trans s1
  have v5 := (K8 5 (by simp)).trans s5
  have v6 := (K8 6 (by simp)).trans s6
  have v12 := (K8 12 (by simp)).trans s12
  have v13 := (K8 13 (by simp)).trans s13
  -- the last two loops
  obtain ⟨t9, h9, w0, w1, w6, w12, eh, hlast⟩ : ∃ t9 h9, T.get und (K.of 0) t9 = .int .u64 (.ofNat x) ∧ T.get und (K.of 1) t9 = .int .i64 (.ofNat m) ∧ T.get und (K.of 6) t9 = .int .u64 (.ofNat y) ∧ T.get und (K.of 12) t9 = .sl (nxt h5) 0 m m 0 ∧
      (∀ {L n : Nat} {k : KE}, m ≤ L → iter (exec (call EzC (L + 1) (n + 1)) (L + 1) ff b6_3) (L + 1) t8 dd h7 k = k (.exit 6) t9 dd h9) ∧
      (∀ t10, T.get und (K.of 17) t10 = .int .i64 I → Kp [0, 6, 12] t9 t10 → ∃ t11 h11, T.get und (K.of 0) t11 = .int .u64 (.ofNat y) ∧ T.get und (K.of 6) t11 = .int .u64 (.ofNat y) ∧
        ∀ {L n : Nat} {k : KE}, J ≤ L → m ≤ L → iter (exec (call EzC (L + 1) (n + 3)) (L + 1) ff b6_4) (L + 1) t10 dd h9 k = k (.exit 8) t11 dd h11) := by
    by_cases h0 : m = 0
    · have hI' : ltI I (.ofNat 1) = true := by rw [← hI, h0]; decide
      have hyx : y = x := by
        subst h0
        generalize hz : 0 - 1 = z at hs
        have hz : z = 0 := by omega
        subst hz
        cases hs
        rfl
      obtain ⟨t9, K9, e9⟩ := b6_3_done hI' u15 h7 dd ff
      refine ⟨t9, h7, (K9 0 (by simp)).trans v0, (K9 1 (by simp)).trans v1, (K9 6 (by simp)).trans v6, (K9 12 (by simp)).trans v12, fun {L n k} hL => by rw [iter_succ, e9, iterK_exit], fun t10 t17 K10 => ?_⟩
      obtain ⟨t11, z0, K11, e11⟩ := b6_4_done hI' t17 ((K10 0 (by simp)).trans ((K9 0 (by simp)).trans v0)) h7 dd ff
      refine ⟨t11, h7, by rw [hyx]; exact z0, (K11 6 (by simp)).trans ((K10 6 (by simp)).trans ((K9 6 (by simp)).trans v6)), fun {L n k} hJ hL => by rw [iter_succ, e11, iterK_exit]⟩
    · have f3 : wrapI .i64 (Int.sub (.ofNat m) (.ofNat 1)) = .ofNat (m - 1) := by rw [sub_ofNat (by omega), wrap_i64 (by omega)]
      rw [f3] at hI
      subst hI
      obtain ⟨t9, h9, D', K9, N9, O9, d12, dl, sD, _, e9⟩ := loop6_3 hm n1 n2 n3 n4 hs t8 h7 (List.replicate m 0) dd ff (by omega) (dis_range m) ⟨v5, v12, v13, u15, m5g, m12g, m13, len5, by simp, by simp⟩
      refine ⟨t9, h9, (K9 0 (by simp)).trans v0, (K9 1 (by simp)).trans v1, (K9 6 (by simp)).trans v6, (K9 12 (by simp)).trans v12, fun {L n k} hL => e9 hL (by omega), fun t10 t17 K10 => ?_⟩
      obtain ⟨t11, h11, z0, K11, e11⟩ := loop6_4 hm sD t10 h9 dd ff (by omega) t17 ⟨(K10 0 (by simp)).trans ((K9 0 (by simp)).trans v0), (K10 12 (by simp)).trans ((K9 12 (by simp)).trans v12), d12, dl, by rw [N9, O7.1, nx6, K.num_succ, K.num_succ]; omega⟩
      refine ⟨t11, h11, z0, (K11 6 (by simp)).trans ((K10 6 (by simp)).trans ((K9 6 (by simp)).trans v6)), fun {L n k} hJ hL => e11 hJ (by omega)⟩
  obtain ⟨t10, w17, K10, ei⟩ := mid6_12 w1 hI h9 dd ff
  obtain ⟨t11, h11, z0, z6, ej⟩ := hlast t10 w17 K10
  refine ⟨J + m + 1, 4, h11, fun kc => ?_⟩
  have hJ : J ≤ J + m := by omega
  have hL : m ≤ J + m := by omega
  rw [show (4 : Nat) = 3 + 1 from rfl, call_fn fn6, r6, c6]
  simp -implicitDefEqProofs only [putArgs_cons, putArgs_nil, Nat.zero_add, ↓bodyK_eq, ← hT]
  have ea' := fun R k => ea (L := J + m) (n := 0) (R := R) (k := k) hJ hL
  have eb' := fun k => eb (L := J + m) (n := 3) (M := J + m + 1) (k := k) (by omega)
  have ec' := fun R k => ec (L := J + m) (n := 3) (R := R) (k := k)
  have ed' := fun k => ed (L := J + m) (n := 3) (M := J + m + 1) (k := k) (by omega)
  have ee' := fun R k => ee (L := J + m) (n := 3) (R := R) (k := k)
  have ef' := fun k => ef (L := J + m) (n := 3) (M := J + m + 1) (k := k) (by omega)
  have eg' := fun R k => eg (L := J + m) (n := 3) (R := R) (k := k)
  have eh' := fun k => eh (L := J + m) (n := 2) (k := k) hL
  have ei' := fun R k => ei (L := J + m) (n := 3) (R := R) (k := k)
  have ej' := fun k => ej (L := J + m) (n := 0) (k := k) hJ hL
  simp only [Nat.zero_add] at ea' ej'
  rw [ea', eb', blockK_exit, if_pos rfl, iterK_normal, execK_eq, ec', ed', blockK_exit, if_pos rfl, iterK_normal, execK_eq, ee', ef', blockK_exit, if_pos rfl, iterK_normal, execK_eq, eg', eh', blockK_exit, if_pos rfl, iterK_normal, execK_eq, ei', ej', blockK_exit, if_pos rfl, iterK_normal, execK_eq, p6_13]
  simp -implicitDefEqProofs only [↓normK_eq, ↓execK_eq, ↓opsK_eq, ↓ops_all, putK_some, ↓exec_reg, ↓exec_seq, ↓exec_ret, ↓iterK_normal, ↓opsRun_nil, kv_eq, ev_t, get_ins, op_mv, op_ibin, beqI_self, ib_eql_u64, fnEnd_ret, res_nil, res_t, one_one, eq_self, Nat.reduceEqDiff, ↓reduceIte, z0, z6, dd]

end

theorem law6 {x : Nat} {a : Int} (h : Hp) : ∃ L n h', ∀ kc : KC, call EzC L n (.fn 6) [.int .u64 (.ofNat x), .int .i64 a] none h kc = kc (.ret (.bool true)) none h' := by
  by_cases hbad : ltI a (.ofNat 0) = true ∨ ltI (.ofNat 4000) a = true
  · exact ⟨1, 4, h, fun kc => law6_bad (L := 0) (n := 0) hbad fun kc => call14_bad hbad⟩
  · have g1 := ltI_false (fun e => hbad (.inl e))
    have g2 := ltI_false (fun e => hbad (.inr e))
    simp only [Int.ofNat_eq_natCast] at g1 g2
    obtain ⟨m, rfl⟩ := Int.eq_ofNat_of_zero_le (show 0 ≤ a by omega)
    exact law6_good (by omega) h

/-- SimulOrders, in any memory and on any tape. -/
theorem orders_calls {g a : Int} (hg : 0 ≤ g) (w : World) : Calls Tryz.prog 6 #[.int .u64 g, .int .i64 a] w fun r w' => r = .returned (.bool true) ∧ w.heap.size ≤ w'.heap.size ∧ (∀ i, i < w.heap.size → w'.heap[i]? = w.heap[i]?) ∧ w'.os = w.os ∧ w'.tape = w.tape ∧ w'.output = w.output := by
  obtain ⟨x, rfl⟩ := Int.eq_ofNat_of_zero_le hg
  obtain ⟨L, n, h', hk⟩ := law6 (x := x) (a := a) (.mk .l .h)
  have hrun : call EzC L n (.fn 6) [.int .u64 (.ofNat x), .int .i64 a] none (.mk .l .h) (retK fun v _ => isT v) = true := by rw [hk]; rfl
  intro cs
  obtain ⟨e, w', fr, ⟨v, h', ρ', v', hg, rfl, hv, H, E⟩, hc⟩ := call_calls Xz_ok mixed EzC_ok L n hrun (HR.empty w) (.cons _ _ _ _ (.int _ _) (.cons _ _ _ _ (.int _ _) .nil)) cs
  refine ⟨_, w', fr, ⟨?_, E.size, E.old, E.os, E.tape, E.out⟩, hc⟩
  cases hv <;> simp_all [isT]

end Go.AJ

