/- SimulDraws. -/
import Derived.Test.YtflhojkjjlfegaaGreatDoorL28k
namespace Go.AJ
open Go Go.Proofs
set_option maxRecDepth 100000

/-- A slice of whole numbers. -/
def Row (h : Hp) (v : V) (l : List Nat) : Prop := (l = [] ∧ v = .nils) ∨ ∃ b p, v = .sl b 0 l.length l.length p ∧ blk h b = .cells (ints l)

theorem Row.len {h : Hp} {v : V} {l : List Nat} (r : Row h v l) {h' : Hp} {c : KV} : oLen .sl v h' c = c (.int .i64 (.ofNat l.length)) h' := by
  rcases r with ⟨rfl, rfl⟩ | ⟨b, p, rfl, _⟩
  · rfl
  · rfl

theorem Row.veq {h : Hp} {v : V} {l : List Nat} (r : Row h v l) : veq 40 v v = true := by
  rcases r with ⟨rfl, rfl⟩ | ⟨b, p, rfl, _⟩
  · rfl
  · exact veq_sl

/-- An element of it. -/
theorem Row.at {h : Hp} {v : V} {l : List Nat} (r : Row h v l) {i : Nat} (hi : i < l.length) : ∃ b, (∀ c : KV, oIdx v (.int .i64 (.ofNat i)) 1 h c = c (.ptr b i) h) ∧ ∀ c : KV, oLoad1 (.ptr b i) h c = c (.int .i64 (.ofNat (l.getD i 0))) h := by
  rcases r with ⟨rfl, rfl⟩ | ⟨b, p, rfl, hb⟩
  · simp at hi
  · refine ⟨b, fun c => ?_, fun c => ?_⟩
    · rw [idx_nat, if_pos hi, Nat.zero_add, Nat.mul_one]
    · rw [ld_ptr, hb, ldB_ints hi]

section
variable {L n : Nat} {h : Hp} {kc : KC} {t : T V} {d : Dc} {k : KE} {fi : FI}

structure S16 (t : T V) (m i : Nat) (v1 v2 : V) : Prop where
  t0 : T.get und (K.of 0) t = v1
  t1 : T.get und (K.of 1) t = v2
  t12 : T.get und (K.of 12) t = .int .i64 (.ofNat m)
  t13 : T.get und (K.of 13) t = .int .i64 (.ofNat i)

theorem b16_done {m : Nat} {v1 v2 : V} (S : S16 t m m v1 v2) (h : Hp) (d : Dc) (fi : FI) : ∃ t1, S16 t1 m m v1 v2 ∧ ∀ {L n : Nat} {k : KE}, exec (call EzC (L + 1) n) (L + 1) fi b16_0 t d h k = k (.exit 0) t1 d h := by
  refine ⟨?t1, ?S, fun {L n k} => ?e⟩
  case e =>
    rw [b16_0]
    simp -implicitDefEqProofs only [↓normK_eq, ↓execK_eq, ↓opsK_eq, isT_bool, isF_bool, ↓ops_all, putK_some, ↓exec_reg, ↓exec_seq, ↓exec_cond, ↓exec_exit, ↓iterK_normal, ↓iterK_exit, ↓opsRun_nil, kv_eq, ev_t, get_ins, op_ibin, ib_lss_i64, ltI_ofNat, eq_self, Bool.not_false, Bool.false_eq_true, ↓reduceIte, S.t12, S.t13, Nat.lt_irrefl, decide_false]
    rfl
  case S => refine ⟨?_, ?_, ?_, ?_⟩ <;> simp -implicitDefEqProofs only [get_ins, eq_self, Nat.reduceEqDiff, reduceCtorEq, ↓reduceIte, S.t0, S.t1, S.t12, S.t13]

theorem b16_step {i : Nat} {l : List Nat} {v1 v2 : V} (hi : i < l.length) (hm : l.length ≤ 4000) (r1 : Row h v1 l) (r2 : Row h v2 l) (S : S16 t l.length i v1 v2) (d : Dc) (fi : FI) :
    ∃ t1, S16 t1 l.length (i + 1) v1 v2 ∧ ∀ {L n : Nat} {k : KE}, exec (call EzC (L + 1) n) (L + 1) fi b16_0 t d h k = k .normal t1 d h := by
  have g1 : (i < l.length) = True := eq_true hi
  have f2 : wrapI .i64 (.ofNat (i + 1)) = .ofNat (i + 1) := wrap_i64 (by omega)
  obtain ⟨b1, i1, l1⟩ := r1.at hi
  obtain ⟨b2, i2, l2⟩ := r2.at hi
  refine ⟨?t1, ?S, fun {L n k} => ?e⟩
  case e =>
    rw [b16_0]
    simp -implicitDefEqProofs only [↓normK_eq, ↓execK_eq, ↓opsK_eq, isV_eq, isT_bool, isF_bool, ↓ops_all, putK_some, ↓draw_cons, ↓drawK_none, chk_all, ↓exec_skip, ↓exec_reg, ↓exec_draw, ↓exec_seq, ↓exec_cond, ↓exec_block, ↓iterK_normal, ↓blockK_normal, ↓opsRun_nil, kv_eq, ev_t, ev_c, get_ins, op_mv, op_load1, op_ibin, op_idx, ↓draw_nil, chkAll_nil, chkAll_cons, chk_mv, chk_load1, chk_ibin, chk_idx, veq_int, kEq_refl, veq_bool, veq_ptr, beqI_self, ib_add_i64, ib_neq_i64, ib_lss_i64, add_ofNat, ltI_ofNat, eq_self, Nat.reduceEqDiff, reduceCtorEq, Bool.not_true, Bool.not_false, Bool.false_eq_true, beq_self_eq_true, Bool.and_self, ↓reduceIte, S.t0, S.t1, S.t12, S.t13, g1, decide_true, f2, i1, i2, l1, l2, r1.veq, r2.veq]
    rfl
  case S => refine ⟨?_, ?_, ?_, ?_⟩ <;> simp -implicitDefEqProofs only [get_ins, eq_self, Nat.reduceEqDiff, reduceCtorEq, ↓reduceIte, S.t0, S.t1, S.t12]

theorem loop16 {l : List Nat} {v1 v2 : V} (hm : l.length ≤ 4000) (r1 : Row h v1 l) (r2 : Row h v2 l) : ∀ (q i : Nat) (t : T V) (d : Dc) (fi : FI), l.length = i + q → S16 t l.length i v1 v2 →
    ∃ t1, ∀ {L n M : Nat} {k : KE}, q < M → iter (exec (call EzC (L + 1) n) (L + 1) fi b16_0) M t d h k = k (.exit 0) t1 d h := by
  intro q
  induction q with
  | zero =>
    intro i t d fi he S
    have hi : i = l.length := by omega
    subst hi
    obtain ⟨t1, S1, e⟩ := b16_done S h d fi
    refine ⟨t1, fun {L n M k} hM => ?_⟩
    obtain ⟨q, rfl⟩ : ∃ q, M = q + 1 := ⟨M - 1, by omega⟩
    rw [iter_succ, e, iterK_exit]
  | succ q ih =>
    intro i t d fi he S
    obtain ⟨t1, S1, e⟩ := b16_step (by omega) hm r1 r2 S d fi
    obtain ⟨t2, e2⟩ := ih (i + 1) t1 d fi (by omega) S1
    refine ⟨t2, fun {L n M k} hM => ?_⟩
    obtain ⟨p, rfl⟩ : ∃ p, M = p + 1 := ⟨M - 1, by omega⟩
    rw [iter_succ, e, iterK_normal, e2 (by omega)]

/-- slices.Equal, of equal ones. -/
theorem call16 {l : List Nat} {v1 v2 : V} (hm : l.length ≤ 4000) (r1 : Row h v1 l) (r2 : Row h v2 l) : ∀ {L n : Nat} {kc : KC}, l.length ≤ L → call EzC (L + 1) (n + 1) (.fn 16) [v1, v2] none h kc = kc (.ret (.bool true)) none h := by
  obtain ⟨T0, hT⟩ : ∃ T0 : T V, T0 = T.ins und (.int .i64 (.ofNat 0)) (K.of 13) (T.ins und (.int .i64 (.ofNat l.length)) (K.of 12) (T.ins und v1 (K.of 11) (T.ins und (.bool false) (K.of 10) (T.ins und (.int .i64 (.ofNat l.length)) (K.of 9) (T.ins und v2 (K.of 8) (T.ins und (.int .i64 (.ofNat l.length)) (K.of 7) (T.ins und v1 (K.of 6) (T.ins und (.bool false) (K.of 4) (T.ins und v2 (K.of 1) (T.ins und v1 (K.of 0) .l)))))))))) := ⟨_, rfl⟩
  have S : S16 T0 l.length 0 v1 v2 := by
    rw [hT]
    refine ⟨?_, ?_, ?_, ?_⟩ <;> simp -implicitDefEqProofs only [get_ins, eq_self, Nat.reduceEqDiff, reduceCtorEq, ↓reduceIte]
  obtain ⟨t1, e⟩ := loop16 hm r1 r2 l.length 0 T0 (.mk [] none) (.mk 16 none) (by omega) S
  intro L n kc hL
  have l1 : ∀ (h' : Hp) (c : KV), oLen .sl v1 h' c = c (.int .i64 (.ofNat l.length)) h' := fun _ _ => r1.len
  have l2 : ∀ (h' : Hp) (c : KV), oLen .sl v2 h' c = c (.int .i64 (.ofNat l.length)) h' := fun _ _ => r2.len
  rw [call_fn fn16, c16, r16, p16_0, p16_1, p16_2, p16_3]
  simp -implicitDefEqProofs only [↓normK_eq, ↓execK_eq, ↓opsK_eq, isT_bool, isF_bool, ↓bodyK_eq, ↓ops_all, putK_some, ↓exec_skip, ↓exec_reg, ↓exec_seq, ↓exec_cond, ↓exec_block, ↓exec_ret, ↓iterK_normal, ↓blockK_exit, ↓opsRun_nil, kv_eq, ev_t, ev_c, get_ins, op_mv, op_ibin, op_len, beqI_self, ib_neq_i64, putArgs_nil, putArgs_cons, fnEnd_ret, res_nil, res_t, one_one, eq_self, Nat.reduceEqDiff, reduceCtorEq, Bool.not_true, Bool.not_false, Bool.false_eq_true, ↓reduceIte, l1, l2, exec_loop, ← hT, e (show l.length < L + 1 by omega)]

theorem law3_any {x : Nat} {s a b c a1 b1 e1 b2 e2 b3 e3 : Int} {u : Nat} {v1 v2 : V} {h1 h2 h3 h4 : Hp} (hu : wrapI .u64 s = .ofNat u)
    (e8 : ∀ kc, call EzC (L + 1) (n + 3) (.fn 8) [.int .u64 (.ofNat x), .int .i64 a] none h kc = kc (.ret (.tup [.int .i64 a1, .int .u64 b1, .int .i64 e1])) none h1)
    (e9 : ∀ kc, call EzC (L + 1) (n + 3) (.fn 9) [.int .u64 (.ofNat x), .int .i64 a] none h1 kc = kc (.ret (.tup [.int .i64 a1, .int .u64 b1, .int .i64 e1])) none h1)
    (e12 : ∀ kc, call EzC (L + 1) (n + 3) (.fn 12) [.int .u64 (.ofNat x), .int .i64 b] none h1 kc = kc (.ret (.tup [.int .u64 b2, .int .i64 e2])) none h2)
    (e13 : ∀ kc, call EzC (L + 1) (n + 3) (.fn 13) [.int .u64 (.ofNat x), .int .i64 b] none h2 kc = kc (.ret (.tup [.int .u64 b2, .int .i64 e2])) none h2)
    (e14 : ∀ kc, call EzC (L + 1) (n + 3) (.fn 14) [.int .u64 (.ofNat x), .int .i64 c] none h2 kc = kc (.ret (.tup [v1, .int .u64 b3, .int .i64 e3])) none h3)
    (e15 : ∀ kc, call EzC (L + 1) (n + 3) (.fn 15) [.int .u64 (.ofNat x), .int .i64 c] none h3 kc = kc (.ret (.tup [v2, .int .u64 b3, .int .i64 e3])) none h4)
    (e16 : ∀ kc, call EzC (L + 1) (n + 3) (.fn 16) [v1, v2] none h4 kc = kc (.ret (.bool true)) none h4) :
    call EzC (L + 1) (n + 4) (.fn 3) [.int .i64 s, .int .u64 (.ofNat x), .int .i64 a, .int .i64 b, .int .i64 c] none h kc = kc (.ret (.bool true)) none h4 := by
  rw [call_fn fn3, c3, r3, p3_0, p3_1, p3_2, p3_3, p3_4, p3_5, p3_6, p3_7, p3_8, p3_9, p3_10]
  simp -implicitDefEqProofs only [↓normK_eq, ↓execK_eq, ↓opsK_eq, callK_eq, isT_bool, isF_bool, ↓bodyK_eq, ↓ops_all, ↓ops_some, putK_some, ↓exec_skip, ↓exec_reg, ↓exec_seq, ↓exec_cond, ↓exec_ret, ↓iterK_normal, ↓opsRun_nil, wantB_bool, kv_eq, ev_t, ev_c, evs_nil, evs_cons, get_ins, op_mv, op_pick, op_ibin, op_not, op_ext, op_call, callEnd_ret, pick_bool, beqI_self, ib_eql_i64, ib_eql_u64, ib_neq_i64, ib_neq_u64, not_bool, ext_tup0, ext_tup1, ext_tup2, putArgs_nil, putArgs_cons, fnEnd_ret, res_nil, res_t, one_one, eq_self, Nat.reduceEqDiff, reduceCtorEq, Bool.not_true, Bool.not_false, Bool.false_eq_true, beq_self_eq_true, ↓reduceIte, call7', call10 hu, call11 hu, e8, e9, e12, e13, e14, e15, e16]

end

theorem ShR.mono {J J' : Nat} (hJ : J ≤ J') {i : Nat} {l : List Nat} {x : Nat} {l' : List Nat} {y : Nat} (hs : ShR J i l x l' y) : ShR J' i l x l' y := by
  induction hs with
  | done l x => exact .done l x
  | step i l x j x1 l' y hj hf _ ih => exact .step i l x j x1 l' y (Nat.le_trans hj hJ) hf ih

theorem shR_ex : ∀ (i : Nat) (l : List Nat) (x : Nat), i ≤ 4000 → ∃ J l' y, ShR J i l x l' y := by
  intro i
  induction i with
  | zero => intro l x _; exact ⟨0, l, x, .done l x⟩
  | succ i ih =>
    intro l x hi
    obtain ⟨j, x1, hf⟩ := found_ex (m := i + 2) (by omega) (by omega) x
    obtain ⟨J, l', y, hs⟩ := ih (swp l (i + 1) (outg x1 % (i + 2))) x1 (by omega)
    exact ⟨max j J, l', y, .step i l x j x1 l' y (Nat.le_max_left _ _) hf (hs.mono (Nat.le_max_right _ _))⟩

theorem ltI_false {a b : Int} (h : ¬ ltI a b = true) : b ≤ a := by
  have h1 : ltI a b = false := by simpa using h
  rw [ltI_eq] at h1
  have := of_decide_eq_false h1
  omega

/-- The two draws. -/
theorem draws_both (x : Nat) (a : Int) (h : Hp) : ∃ a1 b1 e1 h1 J, ∀ L n, J ≤ L →
    (∀ kc, call EzC (L + 1) (n + 3) (.fn 8) [.int .u64 (.ofNat x), .int .i64 a] none h kc = kc (.ret (.tup [.int .i64 a1, .int .u64 b1, .int .i64 e1])) none h1) ∧
    (∀ h' kc, call EzC (L + 1) (n + 3) (.fn 9) [.int .u64 (.ofNat x), .int .i64 a] none h' kc = kc (.ret (.tup [.int .i64 a1, .int .u64 b1, .int .i64 e1])) none h') := by
  by_cases h1 : ltI a (.ofNat 1) = true
  · exact ⟨_, _, _, h, 0, fun L n _ => ⟨fun kc => call8_bad (.inl h1), fun h' kc => call9_bad (.inl h1)⟩⟩
  · by_cases h2 : ltI (.ofNat 2147483648) a = true
    · exact ⟨_, _, _, h, 0, fun L n _ => ⟨fun kc => call8_bad (.inr h2), fun h' kc => call9_bad (.inr h2)⟩⟩
    · have g1 := ltI_false h1
      have g2 := ltI_false h2
      simp only [Int.ofNat_eq_natCast] at g1 g2
      obtain ⟨m, rfl⟩ := Int.eq_ofNat_of_zero_le (show 0 ≤ a by omega)
      obtain ⟨j, y, hf⟩ := found_ex (m := m) (by omega) (by omega) x
      exact ⟨_, _, _, _, j, fun L n hL => ⟨fun kc => call8 (by omega) (by omega) hf hL, fun h' kc => call9 (by omega) (by omega) hf hL⟩⟩

theorem skips_both (x : Nat) (hx : x < 18446744073709551616) (a : Int) (ha : a ≤ 9223372036854775807) (h : Hp) : ∃ b1 e1 h1 J, ∀ L n, J ≤ L →
    (∀ kc, call EzC (L + 1) (n + 3) (.fn 12) [.int .u64 (.ofNat x), .int .i64 a] none h kc = kc (.ret (.tup [.int .u64 b1, .int .i64 e1])) none h1) ∧
    (∀ h' kc, call EzC (L + 1) (n + 3) (.fn 13) [.int .u64 (.ofNat x), .int .i64 a] none h' kc = kc (.ret (.tup [.int .u64 b1, .int .i64 e1])) none h') := by
  by_cases h1 : ltI a (.ofNat 0) = true
  · exact ⟨_, _, h, 0, fun L n _ => ⟨fun kc => call12_bad h1, fun h' kc => call13_bad h1⟩⟩
  · have g1 := ltI_false h1
    simp only [Int.ofNat_eq_natCast] at g1
    obtain ⟨N, rfl⟩ := Int.eq_ofNat_of_zero_le (show 0 ≤ a by omega)
    obtain ⟨h', K', e⟩ := call12s (N := N) (by omega) hx h
    exact ⟨_, _, h', N, fun L n hL => ⟨fun kc => e hL, fun h' kc => call13 (by omega) h' hL⟩⟩

theorem shuffles_both (x : Nat) (a : Int) (h : Hp) : ∃ v1 v2 b1 e1 h1 h2 J, ∀ L n, J ≤ L →
    (∀ kc, call EzC (L + 1) (n + 3) (.fn 14) [.int .u64 (.ofNat x), .int .i64 a] none h kc = kc (.ret (.tup [v1, .int .u64 b1, .int .i64 e1])) none h1) ∧
    (∀ kc, call EzC (L + 1) (n + 3) (.fn 15) [.int .u64 (.ofNat x), .int .i64 a] none h1 kc = kc (.ret (.tup [v2, .int .u64 b1, .int .i64 e1])) none h2) ∧
    (∀ kc, call EzC (L + 1) (n + 3) (.fn 16) [v1, v2] none h2 kc = kc (.ret (.bool true)) none h2) := by
  by_cases hbad : ltI a (.ofNat 0) = true ∨ ltI (.ofNat 4000) a = true
  · exact ⟨.nils, .nils, _, _, h, h, 0, fun L n _ => ⟨fun kc => call14_bad hbad, fun kc => call15_bad hbad, fun kc => call16 (l := []) (by simp) (.inl ⟨rfl, rfl⟩) (.inl ⟨rfl, rfl⟩) (by simp)⟩⟩
  · have g1 := ltI_false (fun e => hbad (.inl e))
    have g2 := ltI_false (fun e => hbad (.inr e))
    simp only [Int.ofNat_eq_natCast] at g1 g2
    obtain ⟨m, rfl⟩ := Int.eq_ofNat_of_zero_le (show 0 ≤ a by omega)
    have hm : m ≤ 4000 := by omega
    obtain ⟨J, l', y, hs⟩ := shR_ex (m - 1) (List.range m) x (by omega)
    obtain ⟨h1, b1, K1, m1, len1, lo1, hi1, e1⟩ := call14 hm hs h
    obtain ⟨h2, v2, K2, m2, e2⟩ := call15 hm hs h1
    have R1 : Row h2 (.sl b1 0 m m 0) l' := .inr ⟨b1, 0, by rw [len1], by rw [K2.old b1 hi1]; exact m1⟩
    have R2 : Row h2 v2 l' := by
      rcases m2 with ⟨h0, hv⟩ | ⟨b, hv, hb, _, _⟩
      · exact .inl ⟨List.length_eq_zero_iff.1 (by omega), hv⟩
      · exact .inr ⟨b, 1, by rw [len1, hv], hb⟩
    exact ⟨_, v2, _, _, h1, h2, max J m, fun L n hL => ⟨fun kc => e1 (by omega) (by omega), fun kc => e2 (by omega) (by omega), fun kc => call16 (by omega) R1 R2 (by omega)⟩⟩

theorem law3 {x : Nat} {s a b c : Int} {h : Hp} (hx : x < 18446744073709551616) (hb : b ≤ 9223372036854775807) : ∃ L n h', ∀ kc : KC, call EzC L n (.fn 3) [.int .i64 s, .int .u64 (.ofNat x), .int .i64 a, .int .i64 b, .int .i64 c] none h kc = kc (.ret (.bool true)) none h' := by
  obtain ⟨u, _, hu⟩ := wrap_ex s
  obtain ⟨a1, b1, e1, h1, J1, d1⟩ := draws_both x a h
  obtain ⟨b2, e2, h2, J2, d2⟩ := skips_both x hx b hb h1
  obtain ⟨v1, v2, b3, e3, h3, h4, J3, d3⟩ := shuffles_both x c h2
  refine ⟨J1 + J2 + J3 + 1, 4, h4, fun kc => ?_⟩
  have q1 := d1 (J1 + J2 + J3) 0 (by omega)
  have q2 := d2 (J1 + J2 + J3) 0 (by omega)
  have q3 := d3 (J1 + J2 + J3) 0 (by omega)
  exact law3_any (n := 0) hu q1.1 (q1.2 _) q2.1 (q2.2 _) q3.1 q3.2.1 q3.2.2

/-- SimulDraws, in any memory and on any tape. -/
theorem draws_calls {s g a b c : Int} (hg : 0 ≤ g) (hg2 : g < 18446744073709551616) (hb : b ≤ 9223372036854775807) (w : World) : Calls Tryz.prog 3 #[.int .i64 s, .int .u64 g, .int .i64 a, .int .i64 b, .int .i64 c] w fun r w' => r = .returned (.bool true) ∧ w.heap.size ≤ w'.heap.size ∧ (∀ i, i < w.heap.size → w'.heap[i]? = w.heap[i]?) ∧ w'.os = w.os ∧ w'.tape = w.tape ∧ w'.output = w.output := by
  obtain ⟨x, rfl⟩ := Int.eq_ofNat_of_zero_le hg
  obtain ⟨L, n, h', hk⟩ := law3 (x := x) (s := s) (a := a) (b := b) (c := c) (h := .mk .l .h) (by omega) hb
  have hrun : call EzC L n (.fn 3) [.int .i64 s, .int .u64 (.ofNat x), .int .i64 a, .int .i64 b, .int .i64 c] none (.mk .l .h) (retK fun v _ => isT v) = true := by rw [hk]; rfl
  intro cs
  obtain ⟨e, w', fr, ⟨v, h', ρ', v', hg, rfl, hv, H, E⟩, hc⟩ := call_calls Xz_ok mixed EzC_ok L n hrun (HR.empty w) (.cons _ _ _ _ (.int _ _) (.cons _ _ _ _ (.int _ _) (.cons _ _ _ _ (.int _ _) (.cons _ _ _ _ (.int _ _) (.cons _ _ _ _ (.int _ _) .nil))))) cs
  refine ⟨_, w', fr, ⟨?_, E.size, E.old, E.os, E.tape, E.out⟩, hc⟩
  cases hv <;> simp_all [isT]

end Go.AJ

