/- Draw, of the code and of the specification. -/
import Derived.Test.YtflhojkjjlfegaaGreatDoorL28a
namespace Go.AJ
open Go Go.Proofs

section
variable {L n : Nat} {h : Hp} {kc : KC} {t : T V} {d : Dc} {k : KE} {fi : FI}

theorem call8_bad {g a : Int} (ha : ltI a (.ofNat 1) = true ∨ ltI (.ofNat 2147483648) a = true) : call EzC (L + 1) (n + 1) (.fn 8) [.int .u64 g, .int .i64 a] none h kc = kc (.ret (.tup [.int .i64 (.ofNat 0), .int .u64 (.ofNat 0), .int .i64 (.ofNat 1)])) none h := by
  rw [call_fn fn8, c8, r8, p8_0, p8_1, p8_2, p8_3, p8_4]
  by_cases h1 : ltI a (.ofNat 1) = true
  · simp -implicitDefEqProofs only [↓normK_eq, ↓execK_eq, ↓opsK_eq, isT_bool, ↓bodyK_eq, ↓ops_all, ↓ops_some, putK_some, ↓exec_reg, ↓exec_seq, ↓exec_cond, ↓exec_ret, ↓iterK_normal, ↓iterK_ret, ↓opsRun_nil, wantB_bool, kv_eq, ev_t, ev_c, get_ins, op_mv, op_pick, op_ibin, pick_bool, ib_lss_i64, putArgs_nil, putArgs_cons, fnEnd_ret, res_nil, res_t, one_two, eq_self, Nat.reduceEqDiff, Bool.false_eq_true, Bool.true_beq, ↓reduceIte, h1]
  · have h2 := ha.resolve_left h1
    have h1 : ltI a (.ofNat 1) = false := by simpa using h1
    simp -implicitDefEqProofs only [↓normK_eq, ↓execK_eq, ↓opsK_eq, isT_bool, ↓bodyK_eq, ↓ops_all, ↓ops_some, putK_some, ↓exec_reg, ↓exec_seq, ↓exec_cond, ↓exec_ret, ↓iterK_normal, ↓iterK_ret, ↓opsRun_nil, wantB_bool, kv_eq, ev_t, ev_c, get_ins, op_mv, op_pick, op_ibin, pick_bool, ib_lss_i64, ib_gtr_i64, putArgs_nil, putArgs_cons, fnEnd_ret, res_nil, res_t, one_two, eq_self, Nat.reduceEqDiff, Bool.false_eq_true, beq_self_eq_true, ↓reduceIte, h1, h2]

theorem call8_any {a v : Int} {x y : Nat} (h1 : ltI a (.ofNat 1) = false) (h2 : ltI (.ofNat 2147483648) a = false)
    (e5 : ∀ {kc : KC}, call EzC (L + 1) (n + 2) (.fn 27) [.ptr (nxt h) 0, .int .i64 a] none (h.upd (nxt h) (.cells [.int .u64 (.ofNat x)])).bump kc = kc (.ret (.int .i64 v)) none (h.upd (nxt h) (.cells [.int .u64 (.ofNat y)])).bump) :
    call EzC (L + 1) (n + 3) (.fn 8) [.int .u64 (.ofNat x), .int .i64 a] none h kc =
      kc (.ret (.tup [.int .i64 v, .int .u64 (.ofNat y), .int .i64 (.ofNat 0)])) none (h.upd (nxt h) (.cells [.int .u64 (.ofNat y)])).bump := by
  have e3 : ∀ (f : Hp → Bool), oStore (.ptr (nxt h) 0) (.int .u64 (.ofNat x)) 1 (h.upd (nxt h) (.cells [.int .u64 (.ofNat 0)])).bump f = f (h.upd (nxt h) (.cells [.int .u64 (.ofNat x)])).bump := fun f => by
    rw [store1_of (l := [.int .u64 (.ofNat 0)]) (by rw [blk_bump, upd_same]) (by simp) rfl, bump_upd, upd_upd]
    rfl
  have e4 : ∀ (c : KV), oLoad1 (.ptr (nxt h) 0) (h.upd (nxt h) (.cells [.int .u64 (.ofNat y)])).bump c = c (.int .u64 (.ofNat y)) (h.upd (nxt h) (.cells [.int .u64 (.ofNat y)])).bump := fun c => load1_of (by rw [blk_bump, upd_same]) rfl
  rw [call_fn fn8, c8, r8, p8_0, p8_1, p8_2, p8_3, p8_4]
  simp -implicitDefEqProofs only [↓normK_eq, ↓execK_eq, ↓opsK_eq, callK_eq, isV_eq, isT_bool, isF_bool, ↓bodyK_eq, ↓ops_all, ↓ops_some, putK_some, putK_none, ↓draw_cons, ↓drawK_none, chk_all, ↓exec_skip, ↓exec_reg, ↓exec_draw, ↓exec_seq, ↓exec_cond, ↓exec_ret, ↓iterK_normal, ↓opsRun_nil, wantB_bool, kv_eq, kh_eq, ev_t, ev_c, evs_nil, evs_cons, get_ins, op_mv, op_pick, op_load1, op_ibin, op_alloc, op_store, op_call, callEnd_ret, ↓draw_nil, chkAll_nil, chkAll_cons, chk_mv, chk_load1, veq_int, kEq_refl, pick_bool, beqI_self, ib_lss_i64, ib_gtr_i64, putArgs_nil, putArgs_cons, fnEnd_ret, res_nil, res_t, one_two, eq_self, Nat.reduceEqDiff, reduceCtorEq, Bool.not_false, Bool.false_eq_true, beq_self_eq_true, Bool.and_self, ↓reduceIte, h1, h2, e3, e4, e5]

theorem call8 {m x y j : Nat} (hm : 1 ≤ m) (hm2 : m ≤ 2147483648) (hf : Found m j x y) (hL : j ≤ L) :
    call EzC (L + 1) (n + 3) (.fn 8) [.int .u64 (.ofNat x), .int .i64 (.ofNat m)] none h kc =
      kc (.ret (.tup [.int .i64 (.ofNat (outg y % m)), .int .u64 (.ofNat y), .int .i64 (.ofNat 0)])) none (h.upd (nxt h) (.cells [.int .u64 (.ofNat y)])).bump := by
  refine call8_any ?_ ?_ fun {kc} => ?_
  · rw [ltI_ofNat, decide_eq_false (by omega)]
  · rw [ltI_ofNat, decide_eq_false (by omega)]
  · rw [call27 hm hm2 hf (by rw [blk_bump, upd_same]) hL, bump_upd, upd_upd]

end
end Go.AJ

