/- Shuffle of the specification. -/
import Derived.Test.YtflhojkjjlfegaaGreatDoorL28j
import Derived.Test.YtflhojkjjlfegaaGreatDoorL28d
namespace Go.AJ
open Go Go.Proofs
set_option maxRecDepth 100000

theorem mkSl_1 {t : T V} {h : Hp} {c : KV} {x : X} {a : V} {ik : IntKind} {n : Int} (hx : ev t x = .int ik n) : oMkSl t [a] [(0, 1, x)] 1 h c = c (.sl (nxt h) 0 1 1 0) (h.upd (nxt h) (.cells [.int ik n])).bump := by
  simp only [oMkSl, fill, hx, cellsV, lenIs, splice, over, newBlk_eq]

theorem takeN_all {l : List V} {n : Nat} {c : List V → Bool} (hn : l.length = n) : takeN n l c = c l := by
  induction l generalizing n c with
  | nil => subst hn; rfl
  | cons x l ih => subst hn; simp only [List.length_cons, takeN]; rw [ih rfl]

theorem cellsAt_all {h : Hp} {b : K} {l : List V} {n : Nat} {c : List V → Bool} (hb : blk h b = .cells l) (hn : l.length = n) : cellsAt h b 0 n c = c l := by
  cases n with
  | zero =>
    have : l = [] := List.length_eq_zero_iff.1 hn
    subst this
    rfl
  | succ n => simp only [cellsAt, cellsOf_of hb, dropN, takeN_all hn]

theorem app_nil {h : Hp} {c : KV} {bx : K} {v : V} (hb : blk h bx = .cells [v]) : oApp .nils (.sl bx 0 1 1 0) 1 8 h c = c (.sl (nxt h) 0 1 1 1) (h.upd (nxt h) (.cells [v])).bump := by
  simp only [oApp, srcOf, cellsAt_all (n := 1 * (0 + 1)) hb rfl, appGo, appNew, newBlk_eq]
  rfl

theorem app_grow {h : Hp} {c : KV} {b bx : K} {l : List V} {v : V} {m : Nat} (hb : blk h b = .cells l) (hx : blk h bx = .cells [v]) (hm : l.length = m) (hbig : (m + 1) * 9 ≤ 1000000000) :
    oApp (.sl b 0 m m 1) (.sl bx 0 1 1 0) 1 8 h c = c (.sl (nxt h) 0 (m + 1) (m + 1) 1) ((h.upd b .none).upd (nxt h) (.cells (l ++ [v]))).bump := by
  have h1 : Nat.ble (m + 1) m = false := by
    cases hq : Nat.ble (m + 1) m with
    | false => rfl
    | true => have := Nat.le_of_ble_eq_true hq; omega
  simp only [oApp, srcOf, cellsAt_all (n := 1 * (0 + 1)) hx rfl, appGo, force_eq, h1, appGrow, Nat.ble_eq_true_of_le hbig, cellsOf_of hb, cellsAt_all (n := m * (0 + 1)) hb (by omega), putBlk_eq, appNew, newBlk_eq, nxt_upd, Nat.zero_add]

section
variable {L n : Nat} {h : Hp} {kc : KC} {t : T V} {d : Dc} {k : KE} {fi : FI}

theorem call15_bad {g a : Int} (ha : ltI a (.ofNat 0) = true ∨ ltI (.ofNat 4000) a = true) : call EzC (L + 1) (n + 1) (.fn 15) [.int .u64 g, .int .i64 a] none h kc = kc (.ret (.tup [.nils, .int .u64 (.ofNat 0), .int .i64 (.ofNat 1)])) none h := by
  rw [call_fn fn15, c15, r15, p15_0, p15_1, p15_2, p15_3, p15_4, p15_5]
  by_cases h1 : ltI a (.ofNat 0) = true
  · simp -implicitDefEqProofs only [↓normK_eq, ↓execK_eq, ↓opsK_eq, isT_bool, ↓bodyK_eq, ↓ops_all, ↓ops_some, putK_some, ↓exec_reg, ↓exec_seq, ↓exec_cond, ↓exec_ret, ↓iterK_normal, ↓iterK_ret, ↓opsRun_nil, wantB_bool, kv_eq, ev_t, ev_c, get_ins, op_mv, op_pick, op_ibin, pick_bool, ib_lss_i64, putArgs_nil, putArgs_cons, fnEnd_ret, res_nil, res_t, one_two, eq_self, Nat.reduceEqDiff, Bool.false_eq_true, Bool.true_beq, ↓reduceIte, h1]
  · have h2 := ha.resolve_left h1
    have h1 : ltI a (.ofNat 0) = false := by simpa using h1
    simp -implicitDefEqProofs only [↓normK_eq, ↓execK_eq, ↓opsK_eq, isT_bool, ↓bodyK_eq, ↓ops_all, ↓ops_some, putK_some, ↓exec_reg, ↓exec_seq, ↓exec_cond, ↓exec_ret, ↓iterK_normal, ↓iterK_ret, ↓opsRun_nil, wantB_bool, kv_eq, ev_t, ev_c, get_ins, op_mv, op_pick, op_ibin, pick_bool, ib_lss_i64, ib_gtr_i64, putArgs_nil, putArgs_cons, fnEnd_ret, res_nil, res_t, one_two, eq_self, Nat.reduceEqDiff, Bool.false_eq_true, beq_self_eq_true, ↓reduceIte, h1, h2]

/-- The slice that grows: none yet, or its first numbers. -/
structure G15 (h0 h : Hp) (v : V) (i : Nat) : Prop where
  k : Keeps h0 h
  v : (i = 0 ∧ v = .nils) ∨ ∃ b, v = .sl b 0 i i 1 ∧ blk h b = .cells (ints (List.range i)) ∧ (nxt h0).num ≤ b.num ∧ b.num < (nxt h).num

structure A15 (t : T V) (m i : Nat) (v0 v7 : V) : Prop where
  t0 : T.get und (K.of 0) t = v0
  t1 : T.get und (K.of 1) t = .int .i64 (.ofNat m)
  t7 : T.get und (K.of 7) t = v7
  t8 : T.get und (K.of 8) t = .int .i64 (.ofNat i)

theorem a15_done {m : Nat} {v0 v7 : V} (S : A15 t m m v0 v7) (h : Hp) (d : Dc) (fi : FI) : ∃ t1, A15 t1 m m v0 v7 ∧ ∀ {L n : Nat} {k : KE}, exec (call EzC (L + 1) (n + 2)) (L + 1) fi b15_0 t d h k = k (.exit 0) t1 d h := by
  refine ⟨?t1, ?S, fun {L n k} => ?e⟩
  case e =>
    rw [b15_0]
    simp -implicitDefEqProofs only [↓normK_eq, ↓execK_eq, ↓opsK_eq, isT_bool, isF_bool, ↓ops_all, putK_some, ↓exec_reg, ↓exec_seq, ↓exec_cond, ↓exec_exit, ↓iterK_normal, ↓iterK_exit, ↓opsRun_nil, kv_eq, ev_t, get_ins, op_mv, op_ibin, ib_lss_i64, ltI_ofNat, eq_self, Nat.reduceEqDiff, Bool.not_false, Bool.false_eq_true, ↓reduceIte, S.t1, S.t8, Nat.lt_irrefl, decide_false]
    rfl
  case S => refine ⟨?_, ?_, ?_, ?_⟩ <;> simp -implicitDefEqProofs only [get_ins, eq_self, Nat.reduceEqDiff, reduceCtorEq, ↓reduceIte, S.t0, S.t1, S.t7, S.t8]

theorem a15_step {m i : Nat} {v0 v7 : V} {h0 : Hp} (hi : i < m) (hm : m ≤ 4000) (S : A15 t m i v0 v7) (G : G15 h0 h v7 i) (d : Dc) (fi : FI) :
    ∃ t1 h1 v7', A15 t1 m (i + 1) v0 v7' ∧ G15 h0 h1 v7' (i + 1) ∧ ∀ {L n : Nat} {k : KE}, exec (call EzC (L + 1) (n + 2)) (L + 1) fi b15_0 t d h k = k .normal t1 d h1 := by
  have g1 : (i < m) = True := eq_true hi
  have f2 : wrapI .i64 (.ofNat (i + 1)) = .ofNat (i + 1) := wrap_i64 (by omega)
  have em : ∀ {t : T V} {h : Hp} {c : KV}, T.get und (K.of 25) t = .int .i64 (.ofNat i) → oMkSl t [.int .i64 (.ofNat 0)] [(0, 1, .t (K.of 25))] 1 h c = c (.sl (nxt h) 0 1 1 0) (h.upd (nxt h) (.cells [.int .i64 (.ofNat i)])).bump := fun hx => mkSl_1 hx
  have ex : ∀ (v : V) (t : T V), T.get und (K.of 25) (T.ins und (.int .i64 (.ofNat i)) (K.of 25) t) = .int .i64 (.ofNat i) := fun v t => by simp -implicitDefEqProofs only [get_ins, eq_self, ↓reduceIte]
  obtain ⟨v', h', hv', happ⟩ : ∃ v' h', G15 h0 h' v' (i + 1) ∧ ∀ c : KV, oApp v7 (.sl (nxt h) 0 1 1 0) 1 8 (h.upd (nxt h) (.cells [.int .i64 (.ofNat i)])).bump c = c v' h' := by
    have hbx : blk (h.upd (nxt h) (.cells [.int .i64 (.ofNat i)])).bump (nxt h) = .cells [.int .i64 (.ofNat i)] := by rw [blk_bump, upd_same]
    rcases G.v with ⟨rfl, rfl⟩ | ⟨b, rfl, hb, hge, hlt⟩
    · refine ⟨_, _, ⟨(G.k.new _).new _, .inr ⟨_, rfl, ?_, ?_, ?_⟩⟩, fun c => app_nil hbx⟩
      · rw [blk_bump, upd_same]; rfl
      · rw [nxt_bump, nxt_upd, K.num_succ]; have := G.k.nx; omega
      · simp only [nxt_bump, nxt_upd, K.num_succ]; omega
    · have hb' : blk (h.upd (nxt h) (.cells [.int .i64 (.ofNat i)])).bump b = .cells (ints (List.range i)) := by
        rw [blk_bump, upd_other (fun e => by subst e; omega)]; exact hb
      refine ⟨_, _, ⟨?_, .inr ⟨_, rfl, ?_, ?_, ?_⟩⟩, fun c => app_grow hb' hbx (by simp [ints]) (by omega)⟩
      · have := ((G.k.new (.cells [.int .i64 (.ofNat i)])).put (b := b) hge .none).new (.cells (ints (List.range i) ++ [.int .i64 (.ofNat i)]))
        simpa only [nxt_upd] using this
      · rw [blk_bump, upd_same, List.range_succ]; simp [ints]
      · rw [nxt_bump, nxt_upd, K.num_succ]; have := G.k.nx; omega
      · simp only [nxt_bump, nxt_upd, K.num_succ]; omega
  refine ⟨?t1, h', v', ?S, hv', fun {L n k} => ?e⟩
  case e =>
    rw [b15_0]
    simp -implicitDefEqProofs only [↓normK_eq, ↓execK_eq, ↓opsK_eq, isT_bool, ↓ops_all, putK_some, ↓exec_skip, ↓exec_reg, ↓exec_seq, ↓exec_cond, ↓exec_block, ↓iterK_normal, ↓blockK_normal, ↓opsRun_nil, kv_eq, ev_t, ev_c, get_ins, op_mv, op_ibin, op_mkSl, op_app, ib_add_i64, ib_lss_i64, add_ofNat, ltI_ofNat, eq_self, Nat.reduceEqDiff, ↓reduceIte, S.t1, S.t7, S.t8, g1, decide_true, f2, em (ex und _), happ]
    rfl
  case S => refine ⟨?_, ?_, ?_, ?_⟩ <;> simp -implicitDefEqProofs only [get_ins, eq_self, Nat.reduceEqDiff, reduceCtorEq, ↓reduceIte, S.t0, S.t1]

theorem aloop15 {m : Nat} {v0 : V} {h0 : Hp} (hm : m ≤ 4000) : ∀ (q i : Nat) (t : T V) (h : Hp) (v7 : V) (d : Dc) (fi : FI), m = i + q → A15 t m i v0 v7 → G15 h0 h v7 i →
    ∃ t1 h1 v7', A15 t1 m m v0 v7' ∧ G15 h0 h1 v7' m ∧ ∀ {L n M : Nat} {k : KE}, q < M → iter (exec (call EzC (L + 1) (n + 2)) (L + 1) fi b15_0) M t d h k = k (.exit 0) t1 d h1 := by
  intro q
  induction q with
  | zero =>
    intro i t h v7 d fi he S G
    have hi : i = m := by omega
    subst hi
    obtain ⟨t1, S1, e⟩ := a15_done S h d fi
    refine ⟨t1, h, v7, S1, G, fun {L n M k} hM => ?_⟩
    obtain ⟨q, rfl⟩ : ∃ q, M = q + 1 := ⟨M - 1, by omega⟩
    rw [iter_succ, e, iterK_exit]
  | succ q ih =>
    intro i t h v7 d fi he S G
    obtain ⟨t1, h1, v', S1, G1, e⟩ := a15_step (by omega) hm S G d fi
    obtain ⟨t2, h2, v'', S2, G2, e2⟩ := ih (i + 1) t1 h1 v' d fi (by omega) S1 G1
    refine ⟨t2, h2, v'', S2, G2, fun {L n M k} hM => ?_⟩
    obtain ⟨p, rfl⟩ : ∃ p, M = p + 1 := ⟨M - 1, by omega⟩
    rw [iter_succ, e, iterK_normal, e2 (by omega)]

/-! The exchanges -/
structure S15 (t : T V) (h : Hp) (m : Nat) (l : List Nat) (x : Nat) (b : K) : Prop where
  t0 : T.get und (K.of 0) t = .int .u64 (.ofNat x)
  t7 : T.get und (K.of 7) t = .sl b 0 m m 1
  mb : blk h b = .cells (ints l)
  len : l.length = m
  nb : b.num < (nxt h).num

theorem b15_done {x : Nat} {I : Int} {v7 : V} (hI : ltI I (.ofNat 1) = true) (ti : T.get und (K.of 9) t = .int .i64 I) (t0 : T.get und (K.of 0) t = .int .u64 (.ofNat x)) (t7 : T.get und (K.of 7) t = v7) (h : Hp) (d : Dc) (fi : FI) :
    ∃ t1, T.get und (K.of 0) t1 = .int .u64 (.ofNat x) ∧ T.get und (K.of 7) t1 = v7 ∧ ∀ {L n : Nat} {k : KE}, exec (call EzC (L + 1) (n + 2)) (L + 1) fi b15_1 t d h k = k (.exit 2) t1 d h := by
  refine ⟨?t1, ?S, ?T, fun {L n k} => ?e⟩
  case e =>
    rw [b15_1]
    simp -implicitDefEqProofs only [↓normK_eq, ↓execK_eq, ↓opsK_eq, isT_bool, isF_bool, ↓ops_all, putK_some, ↓exec_reg, ↓exec_seq, ↓exec_cond, ↓exec_exit, ↓iterK_normal, ↓iterK_exit, ↓opsRun_nil, kv_eq, ev_t, ev_c, get_ins, op_mv, op_ibin, ib_geq_i64, eq_self, Bool.not_true, Bool.not_false, Bool.false_eq_true, ↓reduceIte, ti, hI]
    rfl
  case S => simp -implicitDefEqProofs only [get_ins, eq_self, reduceCtorEq, ↓reduceIte, t0]
  case T => simp -implicitDefEqProofs only [get_ins, eq_self, Nat.reduceEqDiff, ↓reduceIte, t7]

theorem b15_step {m x x1 i j : Nat} {l : List Nat} {b : K} (him : i + 1 < m) (hm : m ≤ 4000) (hf : Found (i + 2) j x x1) (ti : T.get und (K.of 9) t = .int .i64 (.ofNat (i + 1))) (S : S15 t h m l x b) (d : Dc) (fi : FI) :
    ∃ t1 h1, T.get und (K.of 9) t1 = .int .i64 (.ofNat i) ∧ S15 t1 h1 m (swp l (i + 1) (outg x1 % (i + 2))) x1 b ∧ Off h h1 b b ∧ ∀ {L n : Nat} {k : KE}, j ≤ L → exec (call EzC (L + 1) (n + 2)) (L + 1) fi b15_1 t d h k = k .normal t1 d h1 := by
  have hk : outg x1 % (i + 2) < i + 2 := Nat.mod_lt _ (by omega)
  obtain ⟨kk, hkk⟩ : ∃ kk, kk = outg x1 % (i + 2) := ⟨_, rfl⟩
  rw [← hkk] at hk ⊢
  have hl := S.len
  have f1 : ltI (.ofNat (i + 1)) (.ofNat 1) = false := by rw [ltI_ofNat, decide_eq_false (by omega)]
  have f2 : wrapI .i64 (.ofNat (i + 1 + 1)) = .ofNat (i + 2) := wrap_i64 (by omega)
  have f3 : wrapI .i64 (Int.sub (.ofNat (i + 1)) (.ofNat 1)) = .ofNat i := by rw [sub_ofNat (by omega), wrap_i64 (by omega)]; rfl
  have f4 : ∀ {L n : Nat} {h : Hp} {kc : KC}, j ≤ L → call EzC (L + 1) (n + 2) (.fn 28) [.int .u64 (.ofNat x), .int .i64 (.ofNat (i + 2))] none h kc = kc (.ret (.tup [.int .i64 (.ofNat kk), .int .u64 (.ofNat x1)])) none h := fun {L n h kc} hj => by
    rw [call28 (by omega) (by omega) hf hj, ← hkk]
  have g1 : (i + 1 < m) = True := eq_true him
  have g2 : (kk < m) = True := eq_true (by omega)
  have q1 : ∀ (h : Hp) (c : KV), ldB (.cells (ints l)) (i + 1) h c = c (.int .i64 (.ofNat (l.getD (i + 1) 0))) h := fun h c => ldB_ints (by omega)
  have q2 : ∀ (h : Hp) (c : KV), ldB (.cells (ints l)) kk h c = c (.int .i64 (.ofNat (l.getD kk 0))) h := fun h c => ldB_ints (by omega)
  have q3 : ∀ (h : Hp) (f : Hp → Bool), stB (.cells (ints l)) b (i + 1) [.int .i64 (.ofNat (l.getD kk 0))] h f = f (h.upd b (.cells (ints (l.set (i + 1) (l.getD kk 0))))) := fun h f => stB_ints (by omega)
  have q4 : ∀ (h : Hp) (f : Hp → Bool), stB (.cells (ints (l.set (i + 1) (l.getD kk 0)))) b kk [.int .i64 (.ofNat (l.getD (i + 1) 0))] h f = f (h.upd b (.cells (ints (swp l (i + 1) kk)))) := fun h f => by
    rw [stB_ints (by rw [List.length_set]; omega)]; rfl
  refine ⟨?t1, ?h1, ?T, ?S, ?O, fun {L n k} hj => ?e⟩
  case e =>
    rw [b15_1]
    simp -implicitDefEqProofs only [↓normK_eq, ↓execK_eq, ↓opsK_eq, callK_eq, isT_bool, ↓ops_all, putK_some, putK_none, ↓exec_skip, ↓exec_reg, ↓exec_seq, ↓exec_cond, ↓exec_block, ↓iterK_normal, ↓blockK_normal, ↓opsRun_nil, kv_eq, kh_eq, ev_t, ev_c, evs_nil, evs_cons, get_ins, op_mv, op_load1, op_ibin, op_idx, op_store, op_ext, op_call, callEnd_ret, ib_add_i64, ib_sub_i64, ib_geq_i64, add_ofNat, ext_tup0, ext_tup1, upd_same, eq_self, Nat.reduceEqDiff, reduceCtorEq, Bool.not_false, ↓reduceIte, ld_ptr, st_int, idx_nat, upd_upd, Nat.zero_add, Nat.mul_one, ti, S.t0, S.t7, S.mb, f1, f2, f3, f4 hj, g1, g2, q1, q2, q3, q4]
    rfl
  case T => simp -implicitDefEqProofs only [get_ins, eq_self, ↓reduceIte]
  case S =>
    refine ⟨?_, ?_, upd_same, ?_, ?_⟩
    · simp -implicitDefEqProofs only [get_ins, eq_self, reduceCtorEq, ↓reduceIte]
    · simp -implicitDefEqProofs only [get_ins, eq_self, Nat.reduceEqDiff, reduceCtorEq, ↓reduceIte, S.t7]
    · rw [swp_length]; exact hl
    · simp only [nxt_upd]; exact S.nb
  case O =>
    refine ⟨?_, fun b hb c7 c8 => ?_⟩
    · simp only [nxt_upd]; exact Nat.le_refl _
    · rw [upd_other c8]

theorem loop15 {J m : Nat} (hm : m ≤ 4000) {i : Nat} {l : List Nat} {x : Nat} {l' : List Nat} {y : Nat} (hs : ShR J i l x l' y) : ∀ (t : T V) (h : Hp) (b : K) (d : Dc) (fi : FI), i < m → T.get und (K.of 9) t = .int .i64 (.ofNat i) → S15 t h m l x b →
    ∃ t1 h1, S15 t1 h1 m l' y b ∧ Off h h1 b b ∧ ∀ {L n M : Nat} {k : KE}, J ≤ L → i < M → iter (exec (call EzC (L + 1) (n + 2)) (L + 1) fi b15_1) M t d h k = k (.exit 2) t1 d h1 := by
  induction hs with
  | done l x =>
    intro t h b d fi hi ti S
    obtain ⟨t1, r0, r7, e⟩ := b15_done (by rw [ltI_ofNat]; rfl) ti S.t0 S.t7 h d fi
    refine ⟨t1, h, ⟨r0, r7, S.mb, S.len, S.nb⟩, ⟨Nat.le_refl _, fun _ _ _ _ => rfl⟩, fun {L n M k} hJ hM => ?_⟩
    obtain ⟨q, rfl⟩ : ∃ q, M = q + 1 := ⟨M - 1, by omega⟩
    rw [iter_succ, e, iterK_exit]
  | step i l x j x1 l' y hj hf hs ih =>
    intro t h b d fi hi ti S
    obtain ⟨t1, h1, ti1, S1, O, e⟩ := b15_step hi hm hf ti S d fi
    obtain ⟨t2, h2, S2, O2, e2⟩ := ih t1 h1 b d fi (by omega) ti1 S1
    refine ⟨t2, h2, S2, O.trans O2, fun {L n M k} hJ hM => ?_⟩
    obtain ⟨q, rfl⟩ : ∃ q, M = q + 1 := ⟨M - 1, by omega⟩
    rw [iter_succ, e (by omega), iterK_normal, e2 hJ (by omega)]

theorem pre15 {x m : Nat} (hm : m ≤ 4000) (h0 : T.get und (K.of 0) t = .int .u64 (.ofNat x)) (h1 : T.get und (K.of 1) t = .int .i64 (.ofNat m)) (h : Hp) (d : Dc) (fi : FI) :
    ∃ t1, A15 t1 m 0 (.int .u64 (.ofNat x)) .nils ∧ ∀ {L n : Nat} {R : ACode} {k : KE}, exec (call EzC (L + 1) (n + 2)) (L + 1) fi (.seq p15_0 (.seq p15_1 (.seq p15_2 (.seq p15_3 R)))) t d h k =
      iter (exec (call EzC (L + 1) (n + 2)) (L + 1) fi b15_0) (L + 1) t1 d h (blockK 0 (iterK (execK (call EzC (L + 1) (n + 2)) (L + 1) fi R k) k)) := by
  have f1 : (m < 0) = False := eq_false (by omega)
  have f2 : (4000 < m) = False := eq_false (by omega)
  refine ⟨?t1, ?S, fun {L n R k} => ?e⟩
  case e =>
    rw [p15_0, p15_1, p15_2, p15_3]
    simp -implicitDefEqProofs only [↓normK_eq, ↓execK_eq, ↓opsK_eq, isT_bool, isF_bool, ↓ops_all, ↓ops_some, putK_some, ↓exec_skip, ↓exec_reg, ↓exec_seq, ↓exec_cond, ↓exec_block, ↓iterK_normal, ↓opsRun_nil, wantB_bool, kv_eq, ev_t, ev_c, get_ins, op_mv, op_pick, op_ibin, pick_bool, ib_lss_i64, ib_gtr_i64, ltI_ofNat, eq_self, Nat.reduceEqDiff, Bool.not_false, Bool.false_eq_true, beq_self_eq_true, ↓reduceIte, h1, f1, f2, decide_false, exec_loop]
    rfl
  case S => refine ⟨?_, ?_, ?_, ?_⟩ <;> simp -implicitDefEqProofs only [get_ins, eq_self, Nat.reduceEqDiff, reduceCtorEq, ↓reduceIte, h0, h1]

/-- Shuffle of the specification. -/
theorem call15 {J m x y : Nat} {l' : List Nat} (hm : m ≤ 4000) (hs : ShR J (m - 1) (List.range m) x l' y) (h : Hp) :
    ∃ h' v, Keeps h h' ∧ ((m = 0 ∧ v = .nils) ∨ ∃ b, v = .sl b 0 m m 1 ∧ blk h' b = .cells (ints l') ∧ (nxt h).num ≤ b.num ∧ b.num < (nxt h').num) ∧ ∀ {L n : Nat} {kc : KC}, J ≤ L → m ≤ L →
      call EzC (L + 1) (n + 3) (.fn 15) [.int .u64 (.ofNat x), .int .i64 (.ofNat m)] none h kc = kc (.ret (.tup [v, .int .u64 (.ofNat y), .int .i64 (.ofNat 0)])) none h' := by
  obtain ⟨T0, hT⟩ : ∃ T0 : T V, T0 = T.ins und (.int .i64 (.ofNat m)) (K.of 1) (T.ins und (.int .u64 (.ofNat x)) (K.of 0) .l) := ⟨_, rfl⟩
  have q0 : T.get und (K.of 0) T0 = .int .u64 (.ofNat x) := by rw [hT]; simp -implicitDefEqProofs only [get_ins, eq_self, reduceCtorEq, ↓reduceIte]
  have q1 : T.get und (K.of 1) T0 = .int .i64 (.ofNat m) := by rw [hT]; simp -implicitDefEqProofs only [get_ins, eq_self, ↓reduceIte]
  obtain ⟨ta, Sa, ea⟩ := pre15 hm q0 q1 h (.mk [] none) (.mk 15 none)
  obtain ⟨tb, hb, vb, Sb, Gb, eb⟩ := aloop15 (h0 := h) hm m 0 ta h .nils (.mk [] none) (.mk 15 none) (by omega) Sa ⟨Keeps.refl h, .inl ⟨rfl, rfl⟩⟩
  obtain ⟨I, hI⟩ : ∃ I, I = wrapI .i64 (Int.sub (.ofNat m) (.ofNat 1)) := ⟨_, rfl⟩
  obtain ⟨T1, hT1⟩ : ∃ T1 : T V, T1 = T.ins und (.int .i64 I) (K.of 9) (T.ins und (.int .i64 I) (K.of 29) (T.ins und (.int .i64 (.ofNat m)) (K.of 28) tb)) := ⟨_, rfl⟩
  have r0 : T.get und (K.of 0) T1 = .int .u64 (.ofNat x) := by rw [hT1]; simp -implicitDefEqProofs only [get_ins, eq_self, reduceCtorEq, ↓reduceIte, Sb.t0]
  have r7 : T.get und (K.of 7) T1 = vb := by rw [hT1]; simp -implicitDefEqProofs only [get_ins, eq_self, Nat.reduceEqDiff, ↓reduceIte, Sb.t7]
  have r9 : T.get und (K.of 9) T1 = .int .i64 I := by rw [hT1]; simp -implicitDefEqProofs only [get_ins, eq_self, ↓reduceIte]
  -- the exchanges
  obtain ⟨tc, hc, Kc, s0, s7, vc, ec⟩ : ∃ tc hc, Keeps h hc ∧ T.get und (K.of 0) tc = .int .u64 (.ofNat y) ∧ T.get und (K.of 7) tc = vb ∧ ((m = 0 ∧ vb = .nils) ∨ ∃ b, vb = .sl b 0 m m 1 ∧ blk hc b = .cells (ints l') ∧ (nxt h).num ≤ b.num ∧ b.num < (nxt hc).num) ∧
      ∀ {L n : Nat} {k : KE}, J ≤ L → m ≤ L → iter (exec (call EzC (L + 1) (n + 2)) (L + 1) (.mk 15 none) b15_1) (L + 1) T1 (.mk [] none) hb k = k (.exit 2) tc (.mk [] none) hc := by
    by_cases h0 : m = 0
    · have hI' : ltI I (.ofNat 1) = true := by rw [hI, h0]; decide
      obtain ⟨t1, a0, a7, e⟩ := b15_done hI' r9 r0 r7 hb (.mk [] none) (.mk 15 none)
      have hl : y = x := by
        subst h0
        generalize hz : 0 - 1 = z at hs
        have hz : z = 0 := by omega
        subst hz
        cases hs
        rfl
      refine ⟨t1, hb, Gb.k, by rw [hl]; exact a0, a7, ?_, fun {L n k} hJ hL => by rw [iter_succ, e, iterK_exit]⟩
      rcases Gb.v with ⟨_, hv⟩ | ⟨b, hv, hbl, hge, hlt⟩
      · exact .inl ⟨h0, hv⟩
      · refine .inr ⟨b, hv, ?_, hge, hlt⟩
        rw [hbl]
        subst h0
        generalize hz : 0 - 1 = z at hs
        have hz : z = 0 := by omega
        subst hz
        cases hs
        rfl
    · have f3 : wrapI .i64 (Int.sub (.ofNat m) (.ofNat 1)) = .ofNat (m - 1) := by rw [sub_ofNat (by omega), wrap_i64 (by omega)]
      rw [f3] at hI
      subst hI
      rcases Gb.v with ⟨hz, _⟩ | ⟨b, hv, hbl, hge, hlt⟩
      · exact absurd hz h0
      · obtain ⟨t1, h1, S1, O, e⟩ := loop15 hm hs T1 hb b (.mk [] none) (.mk 15 none) (by omega) r9 ⟨r0, by rw [r7, hv], hbl, by simp, hlt⟩
        refine ⟨t1, h1, ⟨Nat.le_trans Gb.k.nx O.1, fun c hc => ?_⟩, S1.t0, by rw [S1.t7, hv], .inr ⟨b, hv, S1.mb, hge, S1.nb⟩, fun {L n k} hJ hL => e hJ (by omega)⟩
        rw [O.2 c (Nat.lt_of_lt_of_le hc Gb.k.nx) (fun e => by subst e; omega) (fun e => by subst e; omega)]
        exact Gb.k.old c hc
  refine ⟨hc, vb, Kc, vc, fun {L n kc} hJ hL => ?_⟩
  rw [call_fn fn15, r15, c15]
  simp -implicitDefEqProofs only [putArgs_cons, putArgs_nil, Nat.zero_add, ↓bodyK_eq, ← hT]
  rw [ea, eb (by omega)]
  rw [p15_4, p15_5]
  simp -implicitDefEqProofs only [↓normK_eq, ↓execK_eq, ↓opsK_eq, ↓ops_all, putK_some, ↓exec_reg, ↓exec_seq, ↓exec_block, ↓exec_ret, ↓iterK_normal, ↓blockK_exit, ↓opsRun_nil, kv_eq, ev_t, ev_c, get_ins, op_mv, op_ibin, ib_sub_i64, fnEnd_ret, res_nil, res_t, one_two, eq_self, Nat.reduceEqDiff, reduceCtorEq, ↓reduceIte, Sb.t1, ← hI, ← hT1, exec_loop, ec hJ hL, s0, s7]

end
end Go.AJ

