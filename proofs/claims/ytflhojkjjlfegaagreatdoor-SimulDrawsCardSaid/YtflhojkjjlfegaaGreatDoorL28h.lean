/- Shuffle. -/
import Derived.Test.YtflhojkjjlfegaaGreatDoorL28g
namespace Go.AJ
open Go Go.Proofs
set_option maxRecDepth 100000

/-- The exchanges at the places i, .., 1; no draw is longer than J steps and one. -/
inductive ShR (J : Nat) : Nat → List Nat → Nat → List Nat → Nat → Prop
  | done (l : List Nat) (x : Nat) : ShR J 0 l x l x
  | step (i : Nat) (l : List Nat) (x j x1 : Nat) (l' : List Nat) (y : Nat) (hj : j ≤ J) (hf : Found (i + 2) j x x1) (h : ShR J i (swp l (i + 1) (outg x1 % (i + 2))) x1 l' y) : ShR J (i + 1) l x l' y

section
variable {L n : Nat} {h : Hp} {kc : KC} {t : T V} {d : Dc} {k : KE} {fi : FI}

structure S14 (t : T V) (h : Hp) (m : Nat) (l : List Nat) (x : Nat) (b7 b8 : K) : Prop where
  t7 : T.get und (K.of 7) t = .ptr b7 0
  t8 : T.get und (K.of 8) t = .sl b8 0 m m 0
  m7 : blk h b7 = .cells [.int .u64 (.ofNat x)]
  m8 : blk h b8 = .cells (ints l)
  len : l.length = m
  n7 : b7.num < (nxt h).num
  n8 : b8.num < (nxt h).num
  ne : (b8 = b7) = False
  ne' : (b7 = b8) = False

theorem b14_done {m x : Nat} {I : Int} {l : List Nat} {b7 b8 : K} (hI : ltI I (.ofNat 1) = true) (ti : T.get und (K.of 10) t = .int .i64 I) (S : S14 t h m l x b7 b8) (d : Dc) (fi : FI) :
    ∃ t1, S14 t1 h m l x b7 b8 ∧ ∀ {L n : Nat} {k : KE}, exec (call EzC (L + 1) (n + 2)) (L + 1) fi b14_1 t d h k = k (.exit 2) t1 d h := by
  refine ⟨?t1, ?S, fun {L n k} => ?e⟩
  case e =>
    rw [b14_1]
    simp -implicitDefEqProofs only [↓normK_eq, ↓execK_eq, ↓opsK_eq, isT_bool, isF_bool, ↓ops_all, putK_some, ↓exec_reg, ↓exec_seq, ↓exec_cond, ↓exec_exit, ↓iterK_normal, ↓iterK_exit, ↓opsRun_nil, kv_eq, ev_t, ev_c, get_ins, op_mv, op_ibin, ib_geq_i64, eq_self, Bool.not_true, Bool.not_false, Bool.false_eq_true, ↓reduceIte, ti, hI]
    rfl
  case S =>
    refine ⟨?_, ?_, S.m7, S.m8, S.len, S.n7, S.n8, S.ne, S.ne'⟩ <;> simp -implicitDefEqProofs only [get_ins, eq_self, Nat.reduceEqDiff, ↓reduceIte, S.t7, S.t8]

theorem b14_step {m x x1 i j : Nat} {l : List Nat} {b7 b8 : K} (him : i + 1 < m) (hm : m ≤ 4000) (hf : Found (i + 2) j x x1) (ti : T.get und (K.of 10) t = .int .i64 (.ofNat (i + 1))) (S : S14 t h m l x b7 b8) (d : Dc) (fi : FI) :
    ∃ t1 h1, T.get und (K.of 10) t1 = .int .i64 (.ofNat i) ∧ S14 t1 h1 m (swp l (i + 1) (outg x1 % (i + 2))) x1 b7 b8 ∧ Off h h1 b7 b8 ∧ ∀ {L n : Nat} {k : KE}, j ≤ L → exec (call EzC (L + 1) (n + 2)) (L + 1) fi b14_1 t d h k = k .normal t1 d h1 := by
  have hk : outg x1 % (i + 2) < i + 2 := Nat.mod_lt _ (by omega)
  obtain ⟨kk, hkk⟩ : ∃ kk, kk = outg x1 % (i + 2) := ⟨_, rfl⟩
  rw [← hkk] at hk ⊢
  have hl := S.len
  have f1 : ltI (.ofNat (i + 1)) (.ofNat 1) = false := by rw [ltI_ofNat, decide_eq_false (by omega)]
  have f2 : wrapI .i64 (.ofNat (i + 1 + 1)) = .ofNat (i + 2) := wrap_i64 (by omega)
  have f3 : wrapI .i64 (Int.sub (.ofNat (i + 1)) (.ofNat 1)) = .ofNat i := by rw [sub_ofNat (by omega), wrap_i64 (by omega)]; rfl
  have f4 : ∀ {L n : Nat} {kc : KC}, j ≤ L → call EzC (L + 1) (n + 2) (.fn 27) [.ptr b7 0, .int .i64 (.ofNat (i + 2))] none h kc = kc (.ret (.int .i64 (.ofNat kk))) none (h.upd b7 (.cells [.int .u64 (.ofNat x1)])) := fun {L n kc} hj => by
    rw [call27 (by omega) (by omega) hf S.m7 hj, ← hkk]
  have g1 : (i + 1 < m) = True := eq_true him
  have g2 : (kk < m) = True := eq_true (by omega)
  have q1 : ∀ (h : Hp) (c : KV), ldB (.cells (ints l)) (i + 1) h c = c (.int .i64 (.ofNat (l.getD (i + 1) 0))) h := fun h c => ldB_ints (by omega)
  have q2 : ∀ (h : Hp) (c : KV), ldB (.cells (ints l)) kk h c = c (.int .i64 (.ofNat (l.getD kk 0))) h := fun h c => ldB_ints (by omega)
  have q3 : ∀ (h : Hp) (f : Hp → Bool), stB (.cells (ints l)) b8 (i + 1) [.int .i64 (.ofNat (l.getD kk 0))] h f = f (h.upd b8 (.cells (ints (l.set (i + 1) (l.getD kk 0))))) := fun h f => stB_ints (by omega)
  have q4 : ∀ (h : Hp) (f : Hp → Bool), stB (.cells (ints (l.set (i + 1) (l.getD kk 0)))) b8 kk [.int .i64 (.ofNat (l.getD (i + 1) 0))] h f = f (h.upd b8 (.cells (ints (swp l (i + 1) kk)))) := fun h f => by
    rw [stB_ints (by rw [List.length_set]; omega)]; rfl
  refine ⟨?t1, ?h1, ?T, ?S, ?O, fun {L n k} hj => ?e⟩
  case e =>
    rw [b14_1]
    simp -implicitDefEqProofs only [↓normK_eq, ↓execK_eq, ↓opsK_eq, ↓stagesK_eq, callK_eq, isV_eq, isT_bool, ↓ops_all, putK_some, putK_none, ↓draw_cons, ↓drawK_none, ↓drawK_some, chk_all, ↓exec_skip, ↓exec_reg, ↓exec_draw, ↓exec_seq, ↓exec_cond, ↓exec_block, ↓iterK_normal, ↓blockK_normal, ↓opsRun_nil, kv_eq, kh_eq, ev_t, ev_c, evs_nil, evs_cons, get_ins, op_mv, op_load1, op_ibin, op_idx, op_store, op_call, callEnd_ret, ↓draw_nil, chkAll_nil, chkAll_cons, chk_mv, chk_load1, chk_idx, veq_int, kEq_refl, veq_ptr, veq_sl, beqI_self, ib_add_i64, ib_sub_i64, ib_geq_i64, add_ofNat, upd_same, eq_self, Nat.reduceEqDiff, Bool.not_false, Bool.and_self, ↓reduceIte, ld_ptr, st_int, idx_nat, blk_upd, upd_upd, Nat.zero_add, Nat.mul_one, ti, S.t7, S.t8, S.m8, f1, f2, f3, f4 hj, g1, g2, q1, q2, q3, q4, S.ne]
    rfl
  case T => simp -implicitDefEqProofs only [get_ins, eq_self, ↓reduceIte]
  case S =>
    refine ⟨?_, ?_, ?_, upd_same, ?_, ?_, ?_, S.ne, S.ne'⟩
    · simp -implicitDefEqProofs only [get_ins, eq_self, Nat.reduceEqDiff, ↓reduceIte, S.t7]
    · simp -implicitDefEqProofs only [get_ins, eq_self, Nat.reduceEqDiff, ↓reduceIte, S.t8]
    · rw [upd_other (of_eq_false S.ne'), upd_same]
    · rw [swp_length]; exact hl
    · simp only [nxt_upd]; exact S.n7
    · simp only [nxt_upd]; exact S.n8
  case O =>
    refine ⟨?_, fun b hb c7 c8 => ?_⟩
    · simp only [nxt_upd]; exact Nat.le_refl _
    · rw [upd_other c8, upd_other c7]

theorem loop14 {J m : Nat} (hm : m ≤ 4000) {i : Nat} {l : List Nat} {x : Nat} {l' : List Nat} {y : Nat} (hs : ShR J i l x l' y) : ∀ (t : T V) (h : Hp) (b7 b8 : K) (d : Dc) (fi : FI), i < m → T.get und (K.of 10) t = .int .i64 (.ofNat i) → S14 t h m l x b7 b8 →
    ∃ t1 h1, S14 t1 h1 m l' y b7 b8 ∧ Off h h1 b7 b8 ∧ ∀ {L n M : Nat} {k : KE}, J ≤ L → i < M → iter (exec (call EzC (L + 1) (n + 2)) (L + 1) fi b14_1) M t d h k = k (.exit 2) t1 d h1 := by
  induction hs with
  | done l x =>
    intro t h b7 b8 d fi hi ti S
    obtain ⟨t1, S1, e⟩ := b14_done (by rw [ltI_ofNat]; rfl) ti S d fi
    refine ⟨t1, h, S1, ⟨Nat.le_refl _, fun _ _ _ _ => rfl⟩, fun {L n M k} hJ hM => ?_⟩
    obtain ⟨q, rfl⟩ : ∃ q, M = q + 1 := ⟨M - 1, by omega⟩
    rw [iter_succ, e, iterK_exit]
  | step i l x j x1 l' y hj hf hs ih =>
    intro t h b7 b8 d fi hi ti S
    obtain ⟨t1, h1, ti1, S1, O, e⟩ := b14_step hi hm hf ti S d fi
    obtain ⟨t2, h2, S2, O2, e2⟩ := ih t1 h1 b7 b8 d fi (by omega) ti1 S1
    refine ⟨t2, h2, S2, O.trans O2, fun {L n M k} hJ hM => ?_⟩
    obtain ⟨q, rfl⟩ : ∃ q, M = q + 1 := ⟨M - 1, by omega⟩
    rw [iter_succ, e (by omega), iterK_normal, e2 hJ (by omega)]

/-- The numbers below i, then zeros. -/
def rg (i m : Nat) : List Nat := List.range i ++ List.replicate (m - i) 0

theorem rg_length {i m : Nat} (h : i ≤ m) : (rg i m).length = m := by simp [rg]; omega
theorem rg_set {i m : Nat} (h : i < m) : (rg i m).set i i = rg (i + 1) m := by
  unfold rg
  rw [List.set_append_right _ _ (by simp), List.length_range, Nat.sub_self, show m - i = (m - (i + 1)) + 1 by omega, List.replicate_succ, List.set_cons_zero, List.range_succ, List.append_assoc]
  rfl
theorem rg_full (m : Nat) : rg m m = List.range m := by simp [rg]
theorem rg_zero (m : Nat) : rg 0 m = List.replicate m 0 := by simp [rg]

structure I14 (t : T V) (h : Hp) (m i x : Nat) (b7 b8 : K) : Prop where
  s : S14 t h m (rg i m) x b7 b8
  t22 : T.get und (K.of 22) t = .int .i64 (.ofNat m)
  t23 : T.get und (K.of 23) t = .int .i64 (.ofNat i)
  t1 : T.get und (K.of 1) t = .int .i64 (.ofNat m)

theorem i14_done {m x : Nat} {b7 b8 : K} (S : I14 t h m m x b7 b8) (d : Dc) (fi : FI) : ∃ t1, I14 t1 h m m x b7 b8 ∧ ∀ {L n : Nat} {k : KE}, exec (call EzC (L + 1) (n + 2)) (L + 1) fi b14_0 t d h k = k (.exit 0) t1 d h := by
  refine ⟨?t1, ?S, fun {L n k} => ?e⟩
  case e =>
    rw [b14_0]
    simp -implicitDefEqProofs only [↓normK_eq, ↓execK_eq, ↓opsK_eq, isT_bool, isF_bool, ↓ops_all, putK_some, ↓exec_reg, ↓exec_seq, ↓exec_cond, ↓exec_exit, ↓iterK_normal, ↓iterK_exit, ↓opsRun_nil, kv_eq, ev_t, get_ins, op_ibin, ib_lss_i64, ltI_ofNat, eq_self, Bool.not_false, Bool.false_eq_true, ↓reduceIte, S.t22, S.t23, Nat.lt_irrefl, decide_false]
    rfl
  case S =>
    refine ⟨⟨?_, ?_, S.s.m7, S.s.m8, S.s.len, S.s.n7, S.s.n8, S.s.ne, S.s.ne'⟩, ?_, ?_, ?_⟩ <;> simp -implicitDefEqProofs only [get_ins, eq_self, Nat.reduceEqDiff, ↓reduceIte, S.s.t7, S.s.t8, S.t22, S.t23, S.t1]

theorem i14_step {m i x : Nat} {b7 b8 : K} (hi : i < m) (hm : m ≤ 4000) (S : I14 t h m i x b7 b8) (d : Dc) (fi : FI) :
    ∃ t1 h1, I14 t1 h1 m (i + 1) x b7 b8 ∧ Off h h1 b7 b8 ∧ ∀ {L n : Nat} {k : KE}, exec (call EzC (L + 1) (n + 2)) (L + 1) fi b14_0 t d h k = k .normal t1 d h1 := by
  have g1 : (i < m) = True := eq_true hi
  have f2 : wrapI .i64 (.ofNat (i + 1)) = .ofNat (i + 1) := wrap_i64 (by omega)
  have q3 : ∀ (h : Hp) (f : Hp → Bool), stB (.cells (ints (rg i m))) b8 i [.int .i64 (.ofNat i)] h f = f (h.upd b8 (.cells (ints (rg (i + 1) m)))) := fun h f => by
    rw [stB_ints (by rw [rg_length (by omega)]; exact hi), rg_set hi]
  refine ⟨?t1, ?h1, ?S, ?O, fun {L n k} => ?e⟩
  case e =>
    rw [b14_0]
    simp -implicitDefEqProofs only [↓normK_eq, ↓execK_eq, ↓opsK_eq, isT_bool, ↓ops_all, putK_some, putK_none, ↓exec_skip, ↓exec_reg, ↓exec_seq, ↓exec_cond, ↓exec_block, ↓iterK_normal, ↓blockK_normal, ↓opsRun_nil, kv_eq, kh_eq, ev_t, ev_c, get_ins, op_mv, op_ibin, op_idx, op_store, ib_add_i64, ib_lss_i64, add_ofNat, ltI_ofNat, eq_self, Nat.reduceEqDiff, ↓reduceIte, st_int, idx_nat, Nat.zero_add, Nat.mul_one, S.t22, S.t23, S.s.t8, S.s.m8, g1, decide_true, q3, f2]
    rfl
  case S =>
    refine ⟨⟨?_, ?_, ?_, upd_same, rg_length (by omega), ?_, ?_, S.s.ne, S.s.ne'⟩, ?_, ?_, ?_⟩
    · simp -implicitDefEqProofs only [get_ins, eq_self, Nat.reduceEqDiff, ↓reduceIte, S.s.t7]
    · simp -implicitDefEqProofs only [get_ins, eq_self, Nat.reduceEqDiff, ↓reduceIte, S.s.t8]
    · rw [upd_other (of_eq_false S.s.ne')]; exact S.s.m7
    · simp only [nxt_upd]; exact S.s.n7
    · simp only [nxt_upd]; exact S.s.n8
    · simp -implicitDefEqProofs only [get_ins, eq_self, Nat.reduceEqDiff, ↓reduceIte, S.t22]
    · simp -implicitDefEqProofs only [get_ins, eq_self, ↓reduceIte]
    · simp -implicitDefEqProofs only [get_ins, eq_self, Nat.reduceEqDiff, ↓reduceIte, S.t1]
  case O =>
    refine ⟨?_, fun b hb c7 c8 => ?_⟩
    · simp only [nxt_upd]; exact Nat.le_refl _
    · rw [upd_other c8]

theorem iloop14 {m x : Nat} (hm : m ≤ 4000) : ∀ (q i : Nat) (t : T V) (h : Hp) (b7 b8 : K) (d : Dc) (fi : FI), m = i + q → I14 t h m i x b7 b8 →
    ∃ t1 h1, I14 t1 h1 m m x b7 b8 ∧ Off h h1 b7 b8 ∧ ∀ {L n M : Nat} {k : KE}, q < M → iter (exec (call EzC (L + 1) (n + 2)) (L + 1) fi b14_0) M t d h k = k (.exit 0) t1 d h1 := by
  intro q
  induction q with
  | zero =>
    intro i t h b7 b8 d fi he S
    have hi : i = m := by omega
    subst hi
    obtain ⟨t1, S1, e⟩ := i14_done S d fi
    refine ⟨t1, h, S1, ⟨Nat.le_refl _, fun _ _ _ _ => rfl⟩, fun {L n M k} hM => ?_⟩
    obtain ⟨q, rfl⟩ : ∃ q, M = q + 1 := ⟨M - 1, by omega⟩
    rw [iter_succ, e, iterK_exit]
  | succ q ih =>
    intro i t h b7 b8 d fi he S
    obtain ⟨t1, h1, S1, O, e⟩ := i14_step (by omega) hm S d fi
    obtain ⟨t2, h2, S2, O2, e2⟩ := ih (i + 1) t1 h1 b7 b8 d fi (by omega) S1
    refine ⟨t2, h2, S2, O.trans O2, fun {L n M k} hM => ?_⟩
    obtain ⟨p, rfl⟩ : ∃ p, M = p + 1 := ⟨M - 1, by omega⟩
    rw [iter_succ, e, iterK_normal, e2 (by omega)]

end
end Go.AJ

