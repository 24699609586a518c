/- Draw of the specification; the statement on draws that are alike. -/
import Derived.Test.YtflhojkjjlfegaaGreatDoorL28b
import Derived.Test.YtflhojkjjlfegaaGreatDoorL28m
namespace Go.AJ
open Go Go.Proofs

section
variable {L n : Nat} {h : Hp} {kc : KC} {t : T V} {d : Dc} {k : KE} {fi : FI}

theorem b28 {x B : Nat} {v1 : V} (h0 : T.get und (K.of 0) t = .int .u64 (.ofNat x)) (h1 : T.get und (K.of 1) t = v1) (h6 : T.get und (K.of 6) t = .int .u64 (.ofNat B)) (R : Bool)
    (hret : outg x < B → ∀ t1, T.get und (K.of 0) t1 = .int .u64 (.ofNat x) → T.get und (K.of 1) t1 = v1 → k (.exit 0) t1 d h = R)
    (hnext : ¬ outg x < B → ∀ t1, T.get und (K.of 0) t1 = .int .u64 (.ofNat (nxg x)) → T.get und (K.of 1) t1 = v1 → T.get und (K.of 6) t1 = .int .u64 (.ofNat B) → k .normal t1 d h = R) :
    exec (call EzC (L + 1) (n + 1)) (L + 1) fi b28_0 t d h k = R := by
  rw [b28_0]
  by_cases hlt : outg x < B
  · simp -implicitDefEqProofs only [↓normK_eq, ↓execK_eq, ↓opsK_eq, isT_bool, isF_bool, ↓ops_all, putK_some, ↓exec_reg, ↓exec_seq, ↓exec_cond, ↓exec_exit, ↓iterK_normal, ↓iterK_exit, ↓opsRun_nil, kv_eq, ev_t, ev_c, get_ins, op_mv, op_ibin, ib_geq_u64, ibin_shr, ltI_ofNat, eq_self, Nat.reduceEqDiff, Bool.not_true, Bool.not_false, Bool.false_eq_true, ↓reduceIte, h0, h6, outg_eq, hlt, decide_true]
    refine hret hlt _ ?_ ?_ <;> simp -implicitDefEqProofs only [get_ins, eq_self, Nat.reduceEqDiff, reduceCtorEq, ↓reduceIte, h0, h1]
  · simp -implicitDefEqProofs only [↓normK_eq, ↓execK_eq, ↓opsK_eq, callK_eq, isT_bool, ↓ops_all, putK_some, ↓exec_skip, ↓exec_reg, ↓exec_seq, ↓exec_cond, ↓exec_block, ↓iterK_normal, ↓blockK_normal, ↓opsRun_nil, kv_eq, ev_t, ev_c, evs_nil, evs_cons, get_ins, op_mv, op_ibin, op_call, callEnd_ret, ib_geq_u64, ibin_shr, ltI_ofNat, eq_self, Nat.reduceEqDiff, reduceCtorEq, Bool.not_false, ↓reduceIte, h0, h6, outg_eq, hlt, decide_false, call30]
    refine hnext hlt _ ?_ ?_ ?_ <;> simp -implicitDefEqProofs only [get_ins, eq_self, Nat.reduceEqDiff, reduceCtorEq, ↓reduceIte, h1, h6]

theorem loop28 {m : Nat} {v1 : V} {j x y : Nat} (hf : Found m j x y) : ∀ (M : Nat) (t : T V) (R : Bool), j + 1 ≤ M → T.get und (K.of 0) t = .int .u64 (.ofNat (nxg x)) → T.get und (K.of 1) t = v1 → T.get und (K.of 6) t = .int .u64 (.ofNat (below m)) →
    (∀ t1, T.get und (K.of 0) t1 = .int .u64 (.ofNat y) → T.get und (K.of 1) t1 = v1 → k (.exit 0) t1 d h = R) →
    iter (exec (call EzC (L + 1) (n + 1)) (L + 1) fi b28_0) M t d h k = R := by
  induction hf with
  | here x hx =>
    intro M t R hM h0 h1 h6 hR
    obtain ⟨i, rfl⟩ : ∃ i, M = i + 1 := ⟨M - 1, by omega⟩
    rw [iter_succ]
    refine b28 h0 h1 h6 R (fun _ t1 g0 g1 => ?_) (fun hn => absurd hx hn)
    rw [iterK_exit]
    exact hR t1 g0 g1
  | later j x y hx hf ih =>
    intro M t R hM h0 h1 h6 hR
    obtain ⟨i, rfl⟩ : ∃ i, M = i + 1 := ⟨M - 1, by omega⟩
    rw [iter_succ]
    refine b28 h0 h1 h6 R (fun hn => absurd hn hx) (fun _ t1 g0 g1 g6 => ?_)
    rw [iterK_normal]
    exact ih i t1 R (by omega) g0 g1 g6 hR

theorem below_eq {m : Nat} : 4294967296 / m % 18446744073709551616 * m % 18446744073709551616 = below m := by
  have h1 : 4294967296 / m ≤ 4294967296 := Nat.div_le_self _ _
  have h2 : 4294967296 / m * m ≤ 4294967296 := Nat.div_mul_le_self _ _
  rw [Nat.mod_eq_of_lt (by omega : 4294967296 / m < 18446744073709551616), Nat.mod_eq_of_lt (by omega)]
  rfl

/-- draw of the specification. -/
theorem call28 {m : Nat} (hm : 1 ≤ m) (hm2 : m ≤ 2147483648) {j x y : Nat} (hf : Found m j x y) (hL : j ≤ L) :
    call EzC (L + 1) (n + 2) (.fn 28) [.int .u64 (.ofNat x), .int .i64 (.ofNat m)] none h kc = kc (.ret (.tup [.int .i64 (.ofNat (outg y % m)), .int .u64 (.ofNat y)])) none h := by
  have e4 : m % 18446744073709551616 = m := by omega
  have e5 : beqI (.ofNat m) 0 = false := by rw [show (0 : Int) = .ofNat 0 from rfl, beqI_ofNat, decide_eq_false (by omega)]
  have e6 : ∀ {a : Int} {h' : Hp} {c : KV}, oIbin .quo (.int .u64 a) (.int .u64 (.ofNat m)) h' c = c (.int .u64 (wrapI .u64 (Int.tdiv a (.ofNat m)))) h' := ibin_quo same_u64 e5
  have e8 : ∀ {a : Int} {h' : Hp} {c : KV}, oIbin .rem (.int .u64 a) (.int .u64 (.ofNat m)) h' c = c (.int .u64 (Int.tmod a (.ofNat m))) h' := ibin_rem same_u64 e5
  have e9 : wrapI .i64 (.ofNat (outg y % m)) = .ofNat (outg y % m) := wrap_i64 (by have := Nat.mod_lt (outg y) (show 0 < m by omega); omega)
  rw [call_fn fn28, c28, r28, p28_0, p28_1, p28_2, p28_3, p28_4]
  simp -implicitDefEqProofs only [↓normK_eq, ↓execK_eq, ↓opsK_eq, callK_eq, ↓bodyK_eq, ↓ops_all, putK_some, ↓exec_reg, ↓exec_seq, ↓exec_block, ↓iterK_normal, ↓opsRun_nil, kv_eq, ev_t, ev_c, evs_nil, evs_cons, get_ins, op_mv, op_ibin, op_conv, op_call, callEnd_ret, wrap_u64, ib_mul_u64, mul_ofNat, tdiv_ofNat, conv_int, putArgs_nil, putArgs_cons, eq_self, Nat.reduceEqDiff, reduceCtorEq, ↓reduceIte, e4, e6, below_eq, call30, exec_loop]
  refine loop28 (v1 := .int .i64 (.ofNat m)) hf (L + 1) _ _ (by omega) ?_ ?_ ?_ (fun t1 g0 g1 => ?_)
  · simp -implicitDefEqProofs only [get_ins, eq_self, ↓reduceIte]
  · simp -implicitDefEqProofs only [get_ins, eq_self, Nat.reduceEqDiff, reduceCtorEq, ↓reduceIte]
  · simp -implicitDefEqProofs only [get_ins, eq_self, Nat.reduceEqDiff, reduceCtorEq, ↓reduceIte]
  · simp -implicitDefEqProofs only [↓normK_eq, ↓execK_eq, ↓opsK_eq, ↓ops_all, putK_some, ↓exec_reg, ↓exec_seq, ↓exec_ret, ↓iterK_normal, ↓blockK_exit, ↓opsRun_nil, kv_eq, ev_t, ev_c, get_ins, op_mv, op_ibin, op_conv, wrap_u64, ibin_shr, tmod_ofNat, conv_int, fnEnd_ret, res_nil, res_t, one_two, eq_self, Nat.reduceEqDiff, reduceCtorEq, ↓reduceIte, g0, g1, outg_eq, e4, e8, e9]

theorem call9_bad {g a : Int} (ha : ltI a (.ofNat 1) = true ∨ ltI (.ofNat 2147483648) a = true) : call EzC (L + 1) (n + 1) (.fn 9) [.int .u64 g, .int .i64 a] none h kc = kc (.ret (.tup [.int .i64 (.ofNat 0), .int .u64 (.ofNat 0), .int .i64 (.ofNat 1)])) none h := by
  rw [call_fn fn9, c9, r9, p9_0, p9_1, p9_2, p9_3]
  by_cases h1 : ltI a (.ofNat 1) = true
  · simp -implicitDefEqProofs only [↓normK_eq, ↓execK_eq, ↓opsK_eq, isT_bool, ↓bodyK_eq, ↓ops_all, ↓ops_some, putK_some, ↓exec_reg, ↓exec_seq, ↓exec_cond, ↓exec_ret, ↓iterK_normal, ↓iterK_ret, ↓opsRun_nil, wantB_bool, kv_eq, ev_t, ev_c, get_ins, op_mv, op_pick, op_ibin, pick_bool, ib_lss_i64, putArgs_nil, putArgs_cons, fnEnd_ret, res_nil, res_t, one_two, eq_self, Nat.reduceEqDiff, Bool.false_eq_true, Bool.true_beq, ↓reduceIte, h1]
  · have h2 := ha.resolve_left h1
    have h1 : ltI a (.ofNat 1) = false := by simpa using h1
    simp -implicitDefEqProofs only [↓normK_eq, ↓execK_eq, ↓opsK_eq, isT_bool, ↓bodyK_eq, ↓ops_all, ↓ops_some, putK_some, ↓exec_reg, ↓exec_seq, ↓exec_cond, ↓exec_ret, ↓iterK_normal, ↓iterK_ret, ↓opsRun_nil, wantB_bool, kv_eq, ev_t, ev_c, get_ins, op_mv, op_pick, op_ibin, pick_bool, ib_lss_i64, ib_gtr_i64, putArgs_nil, putArgs_cons, fnEnd_ret, res_nil, res_t, one_two, eq_self, Nat.reduceEqDiff, Bool.false_eq_true, beq_self_eq_true, ↓reduceIte, h1, h2]

theorem call9_any {a v : Int} {x y : Nat} (h1 : ltI a (.ofNat 1) = false) (h2 : ltI (.ofNat 2147483648) a = false)
    (e5 : ∀ {h : Hp} {kc : KC}, call EzC (L + 1) (n + 2) (.fn 28) [.int .u64 (.ofNat x), .int .i64 a] none h kc = kc (.ret (.tup [.int .i64 v, .int .u64 (.ofNat y)])) none h) :
    call EzC (L + 1) (n + 3) (.fn 9) [.int .u64 (.ofNat x), .int .i64 a] none h kc = kc (.ret (.tup [.int .i64 v, .int .u64 (.ofNat y), .int .i64 (.ofNat 0)])) none h := by
  rw [call_fn fn9, c9, r9, p9_0, p9_1, p9_2, p9_3]
  simp -implicitDefEqProofs only [↓normK_eq, ↓execK_eq, ↓opsK_eq, callK_eq, isT_bool, isF_bool, ↓bodyK_eq, ↓ops_all, ↓ops_some, putK_some, ↓exec_skip, ↓exec_reg, ↓exec_seq, ↓exec_cond, ↓exec_ret, ↓iterK_normal, ↓opsRun_nil, wantB_bool, kv_eq, ev_t, ev_c, evs_nil, evs_cons, get_ins, op_mv, op_pick, op_ibin, op_ext, op_call, callEnd_ret, pick_bool, ib_lss_i64, ib_gtr_i64, ext_tup0, ext_tup1, putArgs_nil, putArgs_cons, fnEnd_ret, res_nil, res_t, one_two, eq_self, Nat.reduceEqDiff, reduceCtorEq, Bool.not_false, Bool.false_eq_true, beq_self_eq_true, ↓reduceIte, h1, h2, e5]

theorem call9 {m x y j : Nat} (hm : 1 ≤ m) (hm2 : m ≤ 2147483648) (hf : Found m j x y) (hL : j ≤ L) :
    call EzC (L + 1) (n + 3) (.fn 9) [.int .u64 (.ofNat x), .int .i64 (.ofNat m)] none h kc =
      kc (.ret (.tup [.int .i64 (.ofNat (outg y % m)), .int .u64 (.ofNat y), .int .i64 (.ofNat 0)])) none h := by
  refine call9_any ?_ ?_ fun {h kc} => call28 hm hm2 hf hL
  · rw [ltI_ofNat, decide_eq_false (by omega)]
  · rw [ltI_ofNat, decide_eq_false (by omega)]

/-! ### SimulAlike -/
theorem b4 {x B : Nat} {v6 : V} (h0 : T.get und (K.of 0) t = .int .u64 (.ofNat x)) (h6 : T.get und (K.of 6) t = v6) (h8 : T.get und (K.of 8) t = .int .u64 (.ofNat B)) (R : Bool)
    (hret : outg x < B → ∀ t1, T.get und (K.of 0) t1 = .int .u64 (.ofNat x) → T.get und (K.of 6) t1 = v6 → k (.exit 0) t1 d h = R)
    (hnext : ¬ outg x < B → ∀ t1, T.get und (K.of 0) t1 = .int .u64 (.ofNat (nxg x)) → T.get und (K.of 6) t1 = v6 → T.get und (K.of 8) t1 = .int .u64 (.ofNat B) → k .normal t1 d h = R) :
    exec (call EzC (L + 1) (n + 1)) (L + 1) fi b4_0 t d h k = R := by
  rw [b4_0]
  by_cases hlt : outg x < B
  · simp -implicitDefEqProofs only [↓normK_eq, ↓execK_eq, ↓opsK_eq, isT_bool, isF_bool, ↓ops_all, putK_some, ↓exec_reg, ↓exec_seq, ↓exec_cond, ↓exec_exit, ↓iterK_normal, ↓iterK_exit, ↓opsRun_nil, kv_eq, ev_t, ev_c, get_ins, op_mv, op_ibin, ib_geq_u64, ibin_shr, ltI_ofNat, eq_self, Nat.reduceEqDiff, Bool.not_true, Bool.not_false, Bool.false_eq_true, ↓reduceIte, h0, h8, outg_eq, hlt, decide_true]
    refine hret hlt _ ?_ ?_ <;> simp -implicitDefEqProofs only [get_ins, eq_self, Nat.reduceEqDiff, reduceCtorEq, ↓reduceIte, h0, h6]
  · simp -implicitDefEqProofs only [↓normK_eq, ↓execK_eq, ↓opsK_eq, callK_eq, isT_bool, ↓ops_all, putK_some, ↓exec_skip, ↓exec_reg, ↓exec_seq, ↓exec_cond, ↓exec_block, ↓iterK_normal, ↓blockK_normal, ↓opsRun_nil, kv_eq, ev_t, ev_c, evs_nil, evs_cons, get_ins, op_mv, op_ibin, op_call, callEnd_ret, ib_geq_u64, ibin_shr, ltI_ofNat, eq_self, Nat.reduceEqDiff, reduceCtorEq, Bool.not_false, ↓reduceIte, h0, h8, outg_eq, hlt, decide_false, call17]
    refine hnext hlt _ ?_ ?_ ?_ <;> simp -implicitDefEqProofs only [get_ins, eq_self, Nat.reduceEqDiff, reduceCtorEq, ↓reduceIte, h6, h8]

theorem loop4 {m : Nat} {v6 : V} {j x y : Nat} (hf : Found m j x y) : ∀ (M : Nat) (t : T V) (R : Bool), j + 1 ≤ M → T.get und (K.of 0) t = .int .u64 (.ofNat (nxg x)) → T.get und (K.of 6) t = v6 → T.get und (K.of 8) t = .int .u64 (.ofNat (below m)) →
    (∀ t1, T.get und (K.of 0) t1 = .int .u64 (.ofNat y) → T.get und (K.of 6) t1 = v6 → k (.exit 0) t1 d h = R) →
    iter (exec (call EzC (L + 1) (n + 1)) (L + 1) fi b4_0) M t d h k = R := by
  induction hf with
  | here x hx =>
    intro M t R hM h0 h1 h6 hR
    obtain ⟨i, rfl⟩ : ∃ i, M = i + 1 := ⟨M - 1, by omega⟩
    rw [iter_succ]
    refine b4 h0 h1 h6 R (fun _ t1 g0 g1 => ?_) (fun hn => absurd hx hn)
    rw [iterK_exit]
    exact hR t1 g0 g1
  | later j x y hx hf ih =>
    intro M t R hM h0 h1 h6 hR
    obtain ⟨i, rfl⟩ : ∃ i, M = i + 1 := ⟨M - 1, by omega⟩
    rw [iter_succ]
    refine b4 h0 h1 h6 R (fun hn => absurd hn hx) (fun _ t1 g0 g1 g6 => ?_)
    rw [iterK_normal]
    exact ih i t1 R (by omega) g0 g1 g6 hR

theorem call7 : call EzC L (n + 1) (.fn 7) [] none h kc = kc (.ret (.bool true)) none h := by
  rw [call_prim fn7, g7_eq]

theorem law4_bad {x : Nat} {a : Int} (ha : ltI a (.ofNat 1) = true ∨ ltI (.ofNat 2147483648) a = true) :
    call EzC (L + 1) (n + 3) (.fn 4) [.int .u64 (.ofNat x), .int .i64 a] none h kc = kc (.ret (.bool true)) none h := by
  rw [call_fn fn4, c4, r4, p4_0, p4_1, p4_2, p4_3, p4_4, p4_5, p4_6, p4_7, p4_8]
  by_cases h1 : ltI a (.ofNat 1) = true
  · simp -implicitDefEqProofs only [↓normK_eq, ↓execK_eq, ↓opsK_eq, callK_eq, isT_bool, isF_bool, ↓bodyK_eq, ↓ops_all, ↓ops_some, putK_some, ↓exec_skip, ↓exec_reg, ↓exec_seq, ↓exec_cond, ↓exec_ret, ↓iterK_normal, ↓iterK_ret, ↓opsRun_nil, wantB_bool, kv_eq, ev_t, ev_c, evs_nil, evs_cons, get_ins, op_mv, op_pick, op_ibin, op_not, op_ext, op_call, callEnd_ret, pick_bool, beqI_self, ib_eql_i64, ib_lss_i64, not_bool, ext_tup0, ext_tup1, ext_tup2, putArgs_nil, putArgs_cons, fnEnd_ret, res_nil, res_t, one_one, eq_self, Nat.reduceEqDiff, reduceCtorEq, Bool.not_true, Bool.not_false, Bool.false_eq_true, Bool.true_beq, ↓reduceIte, call7, call8_bad ha, h1]
  · have h2 := ha.resolve_left h1
    have h1 : ltI a (.ofNat 1) = false := by simpa using h1
    simp -implicitDefEqProofs only [↓normK_eq, ↓execK_eq, ↓opsK_eq, callK_eq, isT_bool, isF_bool, ↓bodyK_eq, ↓ops_all, ↓ops_some, putK_some, ↓exec_skip, ↓exec_reg, ↓exec_seq, ↓exec_cond, ↓exec_ret, ↓iterK_normal, ↓iterK_ret, ↓opsRun_nil, wantB_bool, kv_eq, ev_t, ev_c, evs_nil, evs_cons, get_ins, op_mv, op_pick, op_ibin, op_not, op_ext, op_call, callEnd_ret, pick_bool, beqI_self, ib_eql_i64, ib_lss_i64, ib_gtr_i64, not_bool, ext_tup0, ext_tup1, ext_tup2, putArgs_nil, putArgs_cons, fnEnd_ret, res_nil, res_t, one_one, eq_self, Nat.reduceEqDiff, reduceCtorEq, Bool.not_true, Bool.not_false, Bool.false_eq_true, beq_self_eq_true, ↓reduceIte, call7, call8_bad ha, h1, h2]

theorem law4_any {m x j y : Nat} {a v : Int} (h1 : ltI a (.ofNat 1) = false) (h2 : ltI (.ofNat 2147483648) a = false)
    (e8 : ∀ {kc : KC}, call EzC (L + 1) (n + 3) (.fn 8) [.int .u64 (.ofNat x), .int .i64 a] none h kc = kc (.ret (.tup [.int .i64 v, .int .u64 (.ofNat y), .int .i64 (.ofNat 0)])) none (h.upd (nxt h) (.cells [.int .u64 (.ofNat y)])).bump)
    (h3 : ltI v (.ofNat 0) = false) (h4 : ltI v a = true) (h5 : wrapI .u64 a = .ofNat m)
    (h6 : ∀ {b : Int} {h' : Hp} {c : KV}, oIbin .rem (.int .u64 b) (.int .u64 (.ofNat m)) h' c = c (.int .u64 (Int.tmod b (.ofNat m))) h')
    (h7 : wrapI .i64 (.ofNat (outg y % m)) = v) (h8 : wrapI .u64 (Int.sub (.ofNat 4294967296) (.ofNat (4294967296 % m))) = .ofNat (below m)) (hf : Found m j x y) (hL : j ≤ L) :
    call EzC (L + 1) (n + 4) (.fn 4) [.int .u64 (.ofNat x), .int .i64 a] none h kc = kc (.ret (.bool true)) none (h.upd (nxt h) (.cells [.int .u64 (.ofNat y)])).bump := by
  rw [call_fn fn4, c4, r4, p4_0, p4_1, p4_2, p4_3, p4_4, p4_5, p4_6, p4_7, p4_8]
  simp -implicitDefEqProofs only [↓normK_eq, ↓execK_eq, ↓opsK_eq, callK_eq, isT_bool, isF_bool, ↓bodyK_eq, ↓ops_all, ↓ops_some, putK_some, ↓exec_skip, ↓exec_reg, ↓exec_seq, ↓exec_cond, ↓exec_block, ↓iterK_normal, ↓opsRun_nil, wantB_bool, kv_eq, ev_t, ev_c, evs_nil, evs_cons, get_ins, op_mv, op_pick, op_ibin, op_not, op_ext, op_conv, op_call, callEnd_ret, pick_bool, beqI_self, ib_sub_u64, ib_neq_i64, ib_lss_i64, ib_gtr_i64, ib_geq_i64, ibin_shr, tmod_ofNat, conv_int, not_bool, ext_tup0, ext_tup1, ext_tup2, putArgs_nil, putArgs_cons, eq_self, Nat.reduceEqDiff, reduceCtorEq, Bool.not_true, Bool.not_false, Bool.false_eq_true, beq_self_eq_true, ↓reduceIte, call7, e8, h1, h2, h3, h4, h5, h6, h7, h8, outg_eq, call17, exec_loop]
  refine loop4 (v6 := .int .u64 (.ofNat y)) hf (L + 1) _ _ (by omega) ?_ ?_ ?_ (fun t1 g0 g6 => ?_)
  · simp -implicitDefEqProofs only [get_ins, eq_self, ↓reduceIte]
  · simp -implicitDefEqProofs only [get_ins, eq_self, Nat.reduceEqDiff, reduceCtorEq, ↓reduceIte]
  · simp -implicitDefEqProofs only [get_ins, eq_self, Nat.reduceEqDiff, reduceCtorEq, ↓reduceIte]
  · simp -implicitDefEqProofs only [↓normK_eq, ↓execK_eq, ↓opsK_eq, ↓ops_all, putK_some, ↓exec_reg, ↓exec_seq, ↓exec_ret, ↓iterK_normal, ↓blockK_exit, ↓opsRun_nil, kv_eq, ev_t, get_ins, op_mv, op_ibin, beqI_self, ib_eql_u64, fnEnd_ret, res_nil, res_t, one_one, eq_self, Nat.reduceEqDiff, ↓reduceIte, g0, g6]

end
end Go.AJ

