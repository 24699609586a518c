/- The generator of random numbers: one step, a draw. -/
import Derived.Test.YtflhojkjjlfegaaGreatDoorCode28
namespace Go.AJ
open Go Go.Proofs

section
variable {L n : Nat} {h : Hp} {kc : KC} {t : T V} {d : Dc} {k : KE} {fi : FI}

/-- One step of the generator. -/
def nxg (x : Nat) : Nat := (x * 6364136223846793005 + 1442695040888963407) % 18446744073709551616
def outg (x : Nat) : Nat := x / 4294967296
/-- The greatest multiple of m up to 2^32. -/
def below (m : Nat) : Nat := 4294967296 / m * m

theorem nxg_eq (x : Nat) : (x * 6364136223846793005 % 18446744073709551616 + 1442695040888963407) % 18446744073709551616 = nxg x := by
  unfold nxg; omega

theorem outg_eq (x : Nat) : Nat.div x (Nat.pow 2 (min 32 IntKind.u64.bits)) = outg x := by
  rw [show Nat.pow 2 (min 32 IntKind.u64.bits) = 4294967296 from by decide]
  rfl

theorem call29 (x : Nat) : call EzC (L + 1) (n + 1) (.fn 29) [.int .u64 (.ofNat x)] none h kc = kc (.ret (.int .u64 (.ofNat (nxg x)))) none h := by
  rw [call_fn fn29, c29, r29, p29_0, p29_1]
  simp -implicitDefEqProofs only [↓normK_eq, ↓execK_eq, ↓opsK_eq, ↓bodyK_eq, ↓ops_all, putK_some, ↓exec_reg, ↓exec_seq, ↓exec_ret, ↓iterK_normal, ↓opsRun_nil, kv_eq, ev_t, ev_c, get_ins, op_mv, op_ibin, wrap_u64, ib_add_u64, ib_mul_u64, add_ofNat, mul_ofNat, putArgs_nil, putArgs_cons, fnEnd_ret, res_nil, res_t, one_one, eq_self, reduceCtorEq, ↓reduceIte, nxg_eq]

theorem call17 (x : Nat) : call EzC (L + 1) (n + 1) (.fn 17) [.int .u64 (.ofNat x)] none h kc = kc (.ret (.int .u64 (.ofNat (nxg x)))) none h := by
  rw [call_fn fn17, c17, r17, p17_0, p17_1]
  simp -implicitDefEqProofs only [↓normK_eq, ↓execK_eq, ↓opsK_eq, ↓bodyK_eq, ↓ops_all, putK_some, ↓exec_reg, ↓exec_seq, ↓exec_ret, ↓iterK_normal, ↓opsRun_nil, kv_eq, ev_t, ev_c, get_ins, op_mv, op_ibin, wrap_u64, ib_add_u64, ib_mul_u64, add_ofNat, mul_ofNat, putArgs_nil, putArgs_cons, fnEnd_ret, res_nil, res_t, one_one, eq_self, reduceCtorEq, ↓reduceIte, nxg_eq]

theorem call30 (x : Nat) : call EzC (L + 1) (n + 1) (.fn 30) [.int .u64 (.ofNat x)] none h kc = kc (.ret (.int .u64 (.ofNat (nxg x)))) none h := by
  rw [call_fn fn30, c30, r30, p30_0, p30_1]
  simp -implicitDefEqProofs only [↓normK_eq, ↓execK_eq, ↓opsK_eq, ↓bodyK_eq, ↓ops_all, putK_some, ↓exec_reg, ↓exec_seq, ↓exec_ret, ↓iterK_normal, ↓opsRun_nil, kv_eq, ev_t, ev_c, get_ins, op_mv, op_ibin, wrap_u64, ib_add_u64, ib_mul_u64, add_ofNat, mul_ofNat, putArgs_nil, putArgs_cons, fnEnd_ret, res_nil, res_t, one_one, eq_self, reduceCtorEq, ↓reduceIte, nxg_eq]

theorem call37 (x : Nat) : call EzC (L + 1) (n + 1) (.fn 37) [.int .u64 (.ofNat x)] none h kc = kc (.ret (.int .u64 (.ofNat (outg x)))) none h := by
  rw [call_fn fn37, c37, r37, p37_0, p37_1]
  simp -implicitDefEqProofs only [↓normK_eq, ↓execK_eq, ↓opsK_eq, ↓bodyK_eq, ↓ops_all, putK_some, ↓exec_reg, ↓exec_seq, ↓exec_ret, ↓iterK_normal, ↓opsRun_nil, kv_eq, ev_t, ev_c, get_ins, op_mv, op_ibin, ibin_shr, putArgs_nil, putArgs_cons, fnEnd_ret, res_nil, res_t, one_one, eq_self, reduceCtorEq, ↓reduceIte, outg_eq]

/-- The first state on the way whose output is below: it is found behind j + 1 steps. -/
inductive Found (m : Nat) : Nat → Nat → Nat → Prop
  | here (x : Nat) (h : outg (nxg x) < below m) : Found m 0 x (nxg x)
  | later (j x y : Nat) (h : ¬ outg (nxg x) < below m) (hf : Found m j (nxg x) y) : Found m (j + 1) x y

theorem b27 {x m B : Nat} {b : K} (hm : 1 ≤ m) (hm2 : m ≤ 2147483648) (h0 : T.get und (K.of 0) t = .ptr b 0) (h1 : T.get und (K.of 1) t = .int .i64 (.ofNat m)) (h5 : T.get und (K.of 5) t = .int .u64 (.ofNat B))
    (hb : blk h b = .cells [.int .u64 (.ofNat x)]) (R : Bool)
    (hret : outg (nxg x) < B → ∀ t1, T.get und (K.of 4) t1 = .int .i64 (.ofNat (outg (nxg x) % m)) → k .ret t1 d (h.upd b (.cells [.int .u64 (.ofNat (nxg x))])) = R)
    (hnext : ¬ outg (nxg x) < B → ∀ t1, T.get und (K.of 0) t1 = .ptr b 0 → T.get und (K.of 1) t1 = .int .i64 (.ofNat m) → T.get und (K.of 5) t1 = .int .u64 (.ofNat B) → k .normal t1 d (h.upd b (.cells [.int .u64 (.ofNat (nxg x))])) = R) :
    exec (call EzC (L + 1) (n + 1)) (L + 1) fi b27_0 t d h k = R := by
  have e1 : ∀ (h' : Hp) (c : KV), blk h' b = .cells [.int .u64 (.ofNat x)] → oLoad1 (.ptr b 0) h' c = c (.int .u64 (.ofNat x)) h' := fun h' c hb => load1_of hb rfl
  have e2 : ∀ (c : KV), oLoad1 (.ptr b 0) (h.upd b (.cells [.int .u64 (.ofNat (nxg x))])) c = c (.int .u64 (.ofNat (nxg x))) (h.upd b (.cells [.int .u64 (.ofNat (nxg x))])) := fun c => load1_of upd_same rfl
  have e3 : ∀ (f : Hp → Bool), oStore (.ptr b 0) (.int .u64 (.ofNat (nxg x))) 1 h f = f (h.upd b (.cells [.int .u64 (.ofNat (nxg x))])) := fun f => store1_of hb (by simp) rfl
  have e4 : m % 18446744073709551616 = m := by omega
  have e5 : beqI (.ofNat m) 0 = false := by rw [show (0 : Int) = .ofNat 0 from rfl, beqI_ofNat, decide_eq_false (by omega)]
  have e6 : ∀ {a : Int} {h' : Hp} {c : KV}, oIbin .rem (.int .u64 a) (.int .u64 (.ofNat m)) h' c = c (.int .u64 (Int.tmod a (.ofNat m))) h' := ibin_rem same_u64 e5
  have e7 : wrapI .i64 (.ofNat (outg (nxg x) % m)) = .ofNat (outg (nxg x) % m) := wrap_i64 (by have := Nat.mod_lt (outg (nxg x)) (show 0 < m by omega); omega)
  rw [b27_0]
  simp -implicitDefEqProofs only [↓normK_eq, ↓execK_eq, ↓opsK_eq, callK_eq, isT_bool, isF_bool, ↓ops_all, putK_some, putK_none, ↓exec_skip, ↓exec_reg, ↓exec_seq, ↓exec_cond, ↓exec_block, ↓exec_ret, ↓iterK_normal, ↓blockK_normal, ↓blockK_ret, ↓opsRun_nil, kv_eq, kh_eq, ev_t, evs_nil, evs_cons, get_ins, op_mv, op_load1, op_ibin, op_store, op_nilchk, op_conv, op_call, callEnd_ret, wrap_u64, ib_lss_u64, tmod_ofNat, ltI_ofNat, conv_int, nilchk_ptr, eq_self, Nat.reduceEqDiff, reduceCtorEq, ↓reduceIte, h0, h1, h5, e1 h _ hb, call29, e3, e2, call37, e4, e6, e7]
  by_cases hlt : outg (nxg x) < B
  · simp only [hlt, decide_true, eq_self, ↓reduceIte]
    refine hret hlt _ ?_
    simp -implicitDefEqProofs only [get_ins, eq_self, ↓reduceIte]
  · simp only [hlt, decide_false, eq_self, Bool.not_false, Bool.false_eq_true, ↓reduceIte]
    refine hnext hlt _ ?_ ?_ ?_ <;> simp -implicitDefEqProofs only [get_ins, eq_self, Nat.reduceEqDiff, reduceCtorEq, ↓reduceIte, h0, h1, h5]

theorem loop27 {m : Nat} {b : K} (hm : 1 ≤ m) (hm2 : m ≤ 2147483648) {j x y : Nat} (hf : Found m j x y) : ∀ (M : Nat) (t : T V) (h : Hp) (R : Bool), j + 1 ≤ M → T.get und (K.of 0) t = .ptr b 0 → T.get und (K.of 1) t = .int .i64 (.ofNat m) → T.get und (K.of 5) t = .int .u64 (.ofNat (below m)) →
    blk h b = .cells [.int .u64 (.ofNat x)] → (∀ t1, T.get und (K.of 4) t1 = .int .i64 (.ofNat (outg y % m)) → k .ret t1 d (h.upd b (.cells [.int .u64 (.ofNat y)])) = R) →
    iter (exec (call EzC (L + 1) (n + 1)) (L + 1) fi b27_0) M t d h k = R := by
  induction hf with
  | here x hx =>
    intro M t h R hM h0 h1 h5 hb hR
    obtain ⟨i, rfl⟩ : ∃ i, M = i + 1 := ⟨M - 1, by omega⟩
    rw [iter_succ]
    refine b27 hm hm2 h0 h1 h5 hb R (fun _ t1 ht => ?_) (fun hn => absurd hx hn)
    rw [iterK_ret]
    exact hR t1 ht
  | later j x y hx hf ih =>
    intro M t h R hM h0 h1 h5 hb hR
    obtain ⟨i, rfl⟩ : ∃ i, M = i + 1 := ⟨M - 1, by omega⟩
    rw [iter_succ]
    refine b27 hm hm2 h0 h1 h5 hb R (fun hn => absurd hn hx) (fun _ t1 g0 g1 g5 => ?_)
    rw [iterK_normal]
    refine ih i t1 _ R (by omega) g0 g1 g5 upd_same (fun t2 ht => ?_)
    rw [upd_upd]
    exact hR t2 ht

/-- (*gen).draw. -/
theorem call27 {m : Nat} {b : K} (hm : 1 ≤ m) (hm2 : m ≤ 2147483648) {j x y : Nat} (hf : Found m j x y) (hb : blk h b = .cells [.int .u64 (.ofNat x)]) (hL : j ≤ L) :
    call EzC (L + 1) (n + 2) (.fn 27) [.ptr b 0, .int .i64 (.ofNat m)] none h kc = kc (.ret (.int .i64 (.ofNat (outg y % m)))) none (h.upd b (.cells [.int .u64 (.ofNat y)])) := by
  have e4 : m % 18446744073709551616 = m := by omega
  have e5 : beqI (.ofNat m) 0 = false := by rw [show (0 : Int) = .ofNat 0 from rfl, beqI_ofNat, decide_eq_false (by omega)]
  have e6 : ∀ {a : Int} {h' : Hp} {c : KV}, oIbin .quo (.int .u64 a) (.int .u64 (.ofNat m)) h' c = c (.int .u64 (wrapI .u64 (Int.tdiv a (.ofNat m)))) h' := ibin_quo same_u64 e5
  have e7 : 4294967296 / m % 18446744073709551616 * m % 18446744073709551616 = below m := by
    have h1 : 4294967296 / m ≤ 4294967296 := Nat.div_le_self _ _
    have h2 : 4294967296 / m * m ≤ 4294967296 := Nat.div_mul_le_self _ _
    rw [Nat.mod_eq_of_lt (by omega : 4294967296 / m < 18446744073709551616), Nat.mod_eq_of_lt (by omega)]
    rfl
  rw [call_fn fn27, c27, r27, p27_0, p27_1]
  simp -implicitDefEqProofs only [↓normK_eq, ↓execK_eq, ↓opsK_eq, ↓bodyK_eq, ↓ops_all, putK_some, ↓exec_reg, ↓exec_seq, ↓exec_block, ↓iterK_normal, ↓opsRun_nil, kv_eq, ev_t, ev_c, get_ins, op_mv, op_ibin, op_conv, wrap_u64, ib_mul_u64, mul_ofNat, tdiv_ofNat, conv_int, putArgs_nil, putArgs_cons, eq_self, Nat.reduceEqDiff, ↓reduceIte, e4, e6, e7, exec_loop]
  refine loop27 hm hm2 hf (L + 1) _ h _ (by omega) ?_ ?_ ?_ hb (fun t1 ht => ?_)
  · simp -implicitDefEqProofs only [get_ins, eq_self, reduceCtorEq, ↓reduceIte]
  · simp -implicitDefEqProofs only [get_ins, eq_self, Nat.reduceEqDiff, ↓reduceIte]
  · simp -implicitDefEqProofs only [get_ins, eq_self, ↓reduceIte]
  · simp -implicitDefEqProofs only [↓blockK_ret, fnEnd_ret, res_nil, res_t, one_one, eq_self, ht]

end
end Go.AJ

