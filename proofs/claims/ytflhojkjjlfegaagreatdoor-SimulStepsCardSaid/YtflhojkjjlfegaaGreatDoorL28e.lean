/- Skip: many steps at once. -/
import Derived.Test.YtflhojkjjlfegaaGreatDoorL28m
namespace Go.AJ
open Go Go.Proofs

/-- Two numbers of 64 digits: what they do. -/
abbrev Pw := Nat × Nat
def agp (p : Pw) : V := .agg [.int .u64 (.ofNat p.1), .int .u64 (.ofNat p.2)]
def cep (p : Pw) : Blk := .cells [.int .u64 (.ofNat p.1), .int .u64 (.ofNat p.2)]
def beh (p q : Pw) : Pw := (p.1 * q.1 % 18446744073709551616, (p.2 * q.1 % 18446744073709551616 + q.2) % 18446744073709551616)

section
variable {L n : Nat} {h : Hp} {kc : KC} {t : T V} {d : Dc} {k : KE} {fi : FI}

/-- Three blocks more. -/
noncomputable def new3 (h : Hp) (x y z : Blk) : Hp := (((h.upd (nxt h) x).upd (nxt h).succ y).upd (nxt h).succ.succ z).bump.bump.bump

theorem new3_keeps (h : Hp) (x y z : Blk) : Keeps h (new3 h x y z) := by
  have := (((Keeps.refl h).new x).new y).new z
  simpa only [new3, nxt_bump, nxt_upd, bump_upd] using this

theorem call31 (p q : Pw) : call EzC (L + 1) (n + 1) (.fn 31) [agp p, agp q] none h kc = kc (.ret (agp (beh p q))) none (new3 h (cep p) (cep q) (cep (beh p q))) := by
  rw [call_fn fn31, c31, r31, p31_0, p31_1]
  simp -implicitDefEqProofs only [↓normK_eq, ↓execK_eq, ↓opsK_eq, ↓bodyK_eq, ↓ops_all, putK_some, putK_none, ↓exec_reg, ↓exec_seq, ↓exec_ret, ↓iterK_normal, ↓opsRun_nil, kv_eq, kh_eq, ev_t, ev_c, get_ins, op_load1, op_ibin, op_box, op_alloc, op_mk, op_idxA, op_store, wrap_u64, ib_add_u64, ib_mul_u64, add_ofNat, mul_ofNat, upd_same, putArgs_nil, putArgs_cons, fnEnd_ret, res_nil, res_cellN, one_one, eq_self, Nat.reduceEqDiff, reduceCtorEq, nxt_upd, nxt_bump, ↓reduceIte, ld_ptr, ldN_ptr, ldB_0, ldB_1, ldN_2, st_agg2, stB_2, box_agg, idxA_nat, mk_2, mk2_int, blk_bump, blk_upd, bump_upd, upd_upd, K.self_ne_succ, K.self_ne_succ2, Nat.reduceAdd, Nat.zero_add, Nat.mul_one, Nat.zero_lt_succ, Nat.lt_add_one, agp, beh, cep, new3]

theorem call31x (p q : Pw) (h : Hp) : ∃ h', Keeps h h' ∧ ∀ {L n : Nat} {kc : KC}, call EzC (L + 1) (n + 1) (.fn 31) [.agg [.int .u64 (.ofNat p.1), .int .u64 (.ofNat p.2)], .agg [.int .u64 (.ofNat q.1), .int .u64 (.ofNat q.2)]] none h kc =
    kc (.ret (.agg [.int .u64 (.ofNat (beh p q).1), .int .u64 (.ofNat (beh p q).2)])) none h' :=
  ⟨_, new3_keeps h _ _ _, fun {_L _n _kc} => call31 p q⟩

/-- What the loop of Skip keeps. -/
structure S12 (t : T V) (h : Hp) (N : Nat) (all one : Pw) (v0 v6 : V) (b7 b8 : K) : Prop where
  t1 : T.get und (K.of 1) t = .int .i64 (.ofNat N)
  t0 : T.get und (K.of 0) t = v0
  t6 : T.get und (K.of 6) t = v6
  t7 : T.get und (K.of 7) t = .ptr b7 0
  t8 : T.get und (K.of 8) t = .ptr b8 0
  m7 : blk h b7 = .cells [.int .u64 (.ofNat all.1), .int .u64 (.ofNat all.2)]
  m8 : blk h b8 = .cells [.int .u64 (.ofNat one.1), .int .u64 (.ofNat one.2)]
  n7 : b7.num < (nxt h).num
  n8 : b8.num < (nxt h).num
  ne : (b8 = b7) = False
  ne' : (b7 = b8) = False

/-- Other blocks are as they were. -/
def Off (h h' : Hp) (b7 b8 : K) : Prop := (nxt h).num ≤ (nxt h').num ∧ ∀ b, b.num < (nxt h).num → b ≠ b7 → b ≠ b8 → blk h' b = blk h b

theorem Off.trans {h h1 h2 : Hp} {b7 b8 : K} (a : Off h h1 b7 b8) (b : Off h1 h2 b7 b8) : Off h h2 b7 b8 :=
  ⟨Nat.le_trans a.1 b.1, fun c hc n7 n8 => (b.2 c (Nat.lt_of_lt_of_le hc a.1) n7 n8).trans (a.2 c hc n7 n8)⟩

theorem b12_done {all one : Pw} {v0 v6 : V} {b7 b8 : K} (S : S12 t h 0 all one v0 v6 b7 b8) (d : Dc) (fi : FI) :
    ∃ t1, S12 t1 h 0 all one v0 v6 b7 b8 ∧ ∀ {L n : Nat} {k : KE}, exec (call EzC (L + 1) (n + 1)) (L + 1) fi b12_0 t d h k = k (.exit 0) t1 d h := by
  refine ⟨?t1, ?S, fun {L n k} => ?e⟩
  case e =>
    rw [b12_0]
    simp -implicitDefEqProofs only [↓normK_eq, ↓execK_eq, ↓opsK_eq, isT_bool, isF_bool, ↓ops_all, putK_some, ↓exec_reg, ↓exec_seq, ↓exec_cond, ↓exec_exit, ↓iterK_normal, ↓iterK_exit, ↓opsRun_nil, kv_eq, ev_t, ev_c, get_ins, op_mv, op_ibin, ib_gtr_i64, ltI_ofNat, eq_self, Bool.not_false, Bool.false_eq_true, ↓reduceIte, S.t1, Nat.lt_irrefl, decide_false]
    rfl
  case S =>
    refine ⟨?_, ?_, ?_, ?_, ?_, S.m7, S.m8, S.n7, S.n8, S.ne, S.ne'⟩ <;> simp -implicitDefEqProofs only [get_ins, eq_self, Nat.reduceEqDiff, reduceCtorEq, ↓reduceIte, S.t1, S.t0, S.t6, S.t7, S.t8]

theorem b12_odd {N : Nat} (hN : N ≤ 9223372036854775807) (h0 : (0 < N) = True) (hodd : Nat.land N 1 = 1) (hsh : Nat.div N (Nat.pow 2 (min 1 IntKind.i64.bits)) = N / 2) {all one : Pw} {v0 v6 : V} {b7 b8 : K} (S : S12 t h N all one v0 v6 b7 b8) (d : Dc) (fi : FI) :
    ∃ t1 h1, S12 t1 h1 (N / 2) (beh all one) (beh one one) v0 v6 b7 b8 ∧ Off h h1 b7 b8 ∧ ∀ {L n : Nat} {k : KE}, exec (call EzC (L + 1) (n + 1)) (L + 1) fi b12_0 t d h k = k .normal t1 d h1 := by
  obtain ⟨h1, K1, e1⟩ := call31x all one h
  have f7 : blk h1 b7 = .cells [.int .u64 (.ofNat all.1), .int .u64 (.ofNat all.2)] := (K1.old _ S.n7).trans S.m7
  have f8 : blk h1 b8 = .cells [.int .u64 (.ofNat one.1), .int .u64 (.ofNat one.2)] := (K1.old _ S.n8).trans S.m8
  have g7 : b7.num < (nxt h1).num := Nat.lt_of_lt_of_le S.n7 K1.nx
  have g8 : b8.num < (nxt h1).num := Nat.lt_of_lt_of_le S.n8 K1.nx
  obtain ⟨h2, K2, e2⟩ := call31x one one (h1.upd b7 (.cells [.int .u64 (.ofNat (beh all one).1), .int .u64 (.ofNat (beh all one).2)]))
  have nn : nxt (h1.upd b7 (.cells [.int .u64 (.ofNat (beh all one).1), .int .u64 (.ofNat (beh all one).2)])) = nxt h1 := nxt_upd _ _ _
  have f7' : blk h2 b7 = .cells [.int .u64 (.ofNat (beh all one).1), .int .u64 (.ofNat (beh all one).2)] := (K2.old _ (by rw [nn]; exact g7)).trans upd_same
  have f8' : blk h2 b8 = .cells [.int .u64 (.ofNat one.1), .int .u64 (.ofNat one.2)] := (K2.old _ (by rw [nn]; exact g8)).trans ((upd_other (of_eq_false S.ne)).trans f8)
  have nx2 := K2.nx
  rw [nn] at nx2
  have ea := fun (h' : Hp) (c : KV) => ib_and_i64 (h := h') (c := c) hN (show 1 ≤ 9223372036854775807 by omega)
  refine ⟨?t1, ?h1, ?S, ?O, fun {L n k} => ?e⟩
  case e =>
    rw [b12_0]
    simp -implicitDefEqProofs only [↓normK_eq, ↓execK_eq, ↓opsK_eq, callK_eq, isT_bool, ↓ops_all, putK_some, putK_none, ↓exec_skip, ↓exec_reg, ↓exec_seq, ↓exec_cond, ↓exec_block, ↓iterK_normal, ↓blockK_normal, ↓opsRun_nil, kv_eq, kh_eq, ev_t, ev_c, evs_nil, evs_cons, get_ins, op_mv, op_loadN, op_ibin, op_store, op_call, callEnd_ret, beqI_self, ib_eql_i64, ib_gtr_i64, ibin_shr, ltI_ofNat, eq_self, Nat.reduceEqDiff, ↓reduceIte, ldN_ptr, ldN_2, st_agg2, stB_2, blk_upd, Nat.reduceAdd, S.t1, S.t7, S.t8, S.m7, S.m8, h0, decide_true, ea, hodd, e1, e2, f7, f8, f8', S.ne, hsh]
    rfl
  case S =>
    refine ⟨?_, ?_, ?_, ?_, ?_, ?_, upd_same, ?_, ?_, S.ne, S.ne'⟩
    · simp -implicitDefEqProofs only [get_ins, eq_self, ↓reduceIte]
    · simp -implicitDefEqProofs only [get_ins, eq_self, reduceCtorEq, ↓reduceIte, S.t0]
    · simp -implicitDefEqProofs only [get_ins, eq_self, Nat.reduceEqDiff, ↓reduceIte, S.t6]
    · simp -implicitDefEqProofs only [get_ins, eq_self, Nat.reduceEqDiff, ↓reduceIte, S.t7]
    · simp -implicitDefEqProofs only [get_ins, eq_self, Nat.reduceEqDiff, ↓reduceIte, S.t8]
    · rw [upd_other (of_eq_false S.ne')]; exact f7'
    · rw [nxt_upd]; omega
    · rw [nxt_upd]; omega
  case O =>
    refine ⟨?_, fun b hb c7 c8 => ?_⟩
    · rw [nxt_upd]; have := K1.nx; omega
    · rw [upd_other c8, K2.old b (by rw [nn]; exact Nat.lt_of_lt_of_le hb K1.nx), upd_other c7]; exact K1.old b hb

theorem b12_even {N : Nat} (hN : N ≤ 9223372036854775807) (h0 : (0 < N) = True) (hodd : Nat.land N 1 = 0) (hsh : Nat.div N (Nat.pow 2 (min 1 IntKind.i64.bits)) = N / 2) {all one : Pw} {v0 v6 : V} {b7 b8 : K} (S : S12 t h N all one v0 v6 b7 b8) (d : Dc) (fi : FI) :
    ∃ t1 h1, S12 t1 h1 (N / 2) all (beh one one) v0 v6 b7 b8 ∧ Off h h1 b7 b8 ∧ ∀ {L n : Nat} {k : KE}, exec (call EzC (L + 1) (n + 1)) (L + 1) fi b12_0 t d h k = k .normal t1 d h1 := by
  obtain ⟨h2, K2, e2⟩ := call31x one one h
  have f7' : blk h2 b7 = .cells [.int .u64 (.ofNat all.1), .int .u64 (.ofNat all.2)] := (K2.old _ S.n7).trans S.m7
  have f8' : blk h2 b8 = .cells [.int .u64 (.ofNat one.1), .int .u64 (.ofNat one.2)] := (K2.old _ S.n8).trans S.m8
  have nx2 := K2.nx
  have n7 := S.n7
  have n8 := S.n8
  have ea := fun (h' : Hp) (c : KV) => ib_and_i64 (h := h') (c := c) hN (show 1 ≤ 9223372036854775807 by omega)
  refine ⟨?t1, ?h1, ?S, ?O, fun {L n k} => ?e⟩
  case e =>
    rw [b12_0]
    simp -implicitDefEqProofs only [↓normK_eq, ↓execK_eq, ↓opsK_eq, callK_eq, isT_bool, isF_bool, ↓ops_all, putK_some, putK_none, ↓exec_skip, ↓exec_reg, ↓exec_seq, ↓exec_cond, ↓exec_block, ↓iterK_normal, ↓blockK_normal, ↓opsRun_nil, kv_eq, kh_eq, ev_t, ev_c, evs_nil, evs_cons, get_ins, op_mv, op_loadN, op_ibin, op_store, op_call, callEnd_ret, beqI_ofNat, ib_eql_i64, ib_gtr_i64, ibin_shr, ltI_ofNat, eq_self, Nat.reduceEqDiff, reduceCtorEq, Bool.not_false, Bool.false_eq_true, ↓reduceIte, ldN_ptr, ldN_2, st_agg2, stB_2, Nat.reduceAdd, S.t1, S.t8, S.m8, h0, decide_true, decide_false, ea, hodd, e2, f8', hsh]
    rfl
  case S =>
    refine ⟨?_, ?_, ?_, ?_, ?_, ?_, upd_same, ?_, ?_, S.ne, S.ne'⟩
    · simp -implicitDefEqProofs only [get_ins, eq_self, ↓reduceIte]
    · simp -implicitDefEqProofs only [get_ins, eq_self, reduceCtorEq, ↓reduceIte, S.t0]
    · simp -implicitDefEqProofs only [get_ins, eq_self, Nat.reduceEqDiff, ↓reduceIte, S.t6]
    · simp -implicitDefEqProofs only [get_ins, eq_self, Nat.reduceEqDiff, ↓reduceIte, S.t7]
    · simp -implicitDefEqProofs only [get_ins, eq_self, Nat.reduceEqDiff, ↓reduceIte, S.t8]
    · rw [upd_other (of_eq_false S.ne')]; exact f7'
    · rw [nxt_upd]; omega
    · rw [nxt_upd]; omega
  case O =>
    refine ⟨?_, fun b hb c7 c8 => ?_⟩
    · rw [nxt_upd]; omega
    · rw [upd_other c8]; exact K2.old b hb

theorem land_one (N : Nat) : Nat.land N 1 = N % 2 := by
  show N &&& 1 = N % 2
  exact Nat.and_one_is_mod N
theorem shr_one (N : Nat) : Nat.div N (Nat.pow 2 (min 1 IntKind.i64.bits)) = N / 2 := by
  rw [show Nat.pow 2 (min 1 IntKind.i64.bits) = 2 from by decide]
  rfl

/-- The steps that are left. -/
inductive SkR : Nat → Pw → Pw → Pw → Prop
  | done (all one : Pw) : SkR 0 all one all
  | odd (N : Nat) (all one r : Pw) (h0 : 0 < N) (h1 : N % 2 = 1) (h : SkR (N / 2) (beh all one) (beh one one) r) : SkR N all one r
  | even (N : Nat) (all one r : Pw) (h0 : 0 < N) (h1 : N % 2 = 0) (h : SkR (N / 2) all (beh one one) r) : SkR N all one r

theorem loop12 {N : Nat} {all one r : Pw} (hs : SkR N all one r) : ∀ (t : T V) (h : Hp) (v0 v6 : V) (b7 b8 : K) (d : Dc) (fi : FI), N ≤ 9223372036854775807 → S12 t h N all one v0 v6 b7 b8 →
    ∃ t1 h1 one', S12 t1 h1 0 r one' v0 v6 b7 b8 ∧ Off h h1 b7 b8 ∧ ∀ {L n M : Nat} {k : KE}, N < M → iter (exec (call EzC (L + 1) (n + 1)) (L + 1) fi b12_0) M t d h k = k (.exit 0) t1 d h1 := by
  induction hs with
  | done all one =>
    intro t h v0 v6 b7 b8 d fi hN S
    obtain ⟨t1, S1, e⟩ := b12_done S d fi
    refine ⟨t1, h, one, S1, ⟨Nat.le_refl _, fun _ _ _ _ => rfl⟩, fun {L n M k} hM => ?_⟩
    obtain ⟨i, rfl⟩ : ∃ i, M = i + 1 := ⟨M - 1, by omega⟩
    rw [iter_succ, e, iterK_exit]
  | odd N all one r h0 h1 hs ih =>
    intro t h v0 v6 b7 b8 d fi hN S
    obtain ⟨t1, h', S1, O, e⟩ := b12_odd hN (eq_true h0) (by rw [land_one, h1]) (shr_one N) S d fi
    obtain ⟨t2, h2, one', S2, O2, e2⟩ := ih t1 h' v0 v6 b7 b8 d fi (by omega) S1
    refine ⟨t2, h2, one', S2, O.trans O2, fun {L n M k} hM => ?_⟩
    obtain ⟨i, rfl⟩ : ∃ i, M = i + 1 := ⟨M - 1, by omega⟩
    rw [iter_succ, e, iterK_normal, e2 (by omega)]
  | even N all one r h0 h1 hs ih =>
    intro t h v0 v6 b7 b8 d fi hN S
    obtain ⟨t1, h', S1, O, e⟩ := b12_even hN (eq_true h0) (by rw [land_one, h1]) (shr_one N) S d fi
    obtain ⟨t2, h2, one', S2, O2, e2⟩ := ih t1 h' v0 v6 b7 b8 d fi (by omega) S1
    refine ⟨t2, h2, one', S2, O.trans O2, fun {L n M k} hM => ?_⟩
    obtain ⟨i, rfl⟩ : ∃ i, M = i + 1 := ⟨M - 1, by omega⟩
    rw [iter_succ, e, iterK_normal, e2 (by omega)]

theorem skR_ex : ∀ (B N : Nat), N ≤ B → ∀ all one, ∃ r, SkR N all one r := by
  intro B
  induction B with
  | zero =>
    intro N hN all one
    have h0 : N = 0 := by omega
    subst h0
    exact ⟨all, .done all one⟩
  | succ B ih =>
    intro N hN all one
    by_cases h0 : N = 0
    · subst h0; exact ⟨all, .done all one⟩
    · rcases Nat.mod_two_eq_zero_or_one N with h1 | h1
      · obtain ⟨r, hr⟩ := ih (N / 2) (by omega) all (beh one one)
        exact ⟨r, .even N all one r (by omega) h1 hr⟩
      · obtain ⟨r, hr⟩ := ih (N / 2) (by omega) (beh all one) (beh one one)
        exact ⟨r, .odd N all one r (by omega) h1 hr⟩

/-- What a pair does to a number. -/
def app (p : Pw) (x : Nat) : Nat := (x * p.1 + p.2) % 18446744073709551616

theorem app_beh (p q : Pw) (x : Nat) : app (beh p q) x = app q (app p x) := by
  obtain ⟨p1, p2⟩ := p
  obtain ⟨q1, q2⟩ := q
  simp only [app, beh]
  generalize 18446744073709551616 = M
  rw [Nat.add_mod (x * (p1 * q1 % M)), Nat.mul_mod x, Nat.mod_mod, ← Nat.mul_mod, Nat.mod_mod, Nat.add_mod (p2 * q1 % M), Nat.mod_mod, ← Nat.add_mod (p2 * q1), ← Nat.add_mod]
  rw [Nat.add_mod ((x * p1 + p2) % M * q1), Nat.mul_mod ((x * p1 + p2) % M), Nat.mod_mod, ← Nat.mul_mod, ← Nat.add_mod]
  rw [Nat.add_mul, Nat.mul_assoc, Nat.add_assoc]

theorem skR_app {N : Nat} {all one r : Pw} (hs : SkR N all one r) : ∀ x, app r x = itf (app one) N (app all x) := by
  have dbl : ∀ (f : Nat → Nat) (k x : Nat), itf (fun x => f (f x)) k x = itf f (2 * k) x := by
    intro f k
    induction k with
    | zero => intro x; rfl
    | succ k ih => intro x; rw [show 2 * (k + 1) = 2 * k + 1 + 1 by omega]; exact ih (f (f x))
  have bb : ∀ p : Pw, app (beh p p) = fun x => app p (app p x) := fun p => funext (app_beh p p)
  induction hs with
  | done all one => intro x; rfl
  | odd N all one r h0 h1 hs ih =>
    intro x
    rw [ih, bb, dbl, app_beh]
    conv => rhs; rw [show N = 2 * (N / 2) + 1 by omega]
    rfl
  | even N all one r h0 h1 hs ih =>
    intro x
    rw [ih, bb, dbl]
    conv => rhs; rw [show N = 2 * (N / 2) by omega]

theorem call12_bad {g a : Int} (ha : ltI a (.ofNat 0) = true) : call EzC (L + 1) (n + 1) (.fn 12) [.int .u64 g, .int .i64 a] none h kc = kc (.ret (.tup [.int .u64 (.ofNat 0), .int .i64 (.ofNat 1)])) none h := by
  rw [call_fn fn12, c12, r12, p12_0, p12_1, p12_2, p12_3, p12_4, p12_5]
  simp -implicitDefEqProofs only [↓normK_eq, ↓execK_eq, ↓opsK_eq, isT_bool, ↓bodyK_eq, ↓ops_all, putK_some, ↓exec_reg, ↓exec_seq, ↓exec_cond, ↓exec_ret, ↓iterK_normal, ↓iterK_ret, ↓opsRun_nil, kv_eq, ev_t, ev_c, get_ins, op_mv, op_ibin, ib_lss_i64, putArgs_nil, putArgs_cons, fnEnd_ret, res_nil, res_t, one_two, eq_self, Nat.reduceEqDiff, ↓reduceIte, ha]

/-- Ahead of the loop. -/
theorem init12 {x : V} {N : Nat} (h0 : T.get und (K.of 0) t = x) (h1 : T.get und (K.of 1) t = .int .i64 (.ofNat N)) (h : Hp) (d : Dc) (fi : FI) :
    ∃ t1 h1, S12 t1 h1 N (1, 0) (6364136223846793005, 1442695040888963407) x (.ptr (nxt h) 0) (nxt h).succ (nxt h).succ.succ ∧ Keeps h h1 ∧ blk h1 (nxt h) = .cells [.int .u64 (.ofNat 1), .int .u64 (.ofNat 0)] ∧
      (nxt h).num < (nxt h1).num ∧ ∀ {L n : Nat} {k : KE}, exec (call EzC (L + 1) (n + 1)) (L + 1) fi p12_2 t d h k = k .normal t1 d h1 := by
  refine ⟨?t1, ?h1, ?S, ?K, ?b, ?n, fun {L n k} => ?e⟩
  case e =>
    rw [p12_2]
    simp -implicitDefEqProofs only [↓normK_eq, ↓opsK_eq, ↓ops_all, putK_some, putK_none, ↓exec_reg, ↓opsRun_nil, kv_eq, kh_eq, ev_t, ev_c, get_ins, op_alloc, op_mk, op_store, upd_same, eq_self, Nat.reduceEqDiff, nxt_upd, nxt_bump, ↓reduceIte, st_agg2, stB_2, mk_2, mk2_int, blk_bump, blk_upd, bump_upd, K.self_ne_succ, K.succ_ne_self, K.self_ne_succ2, K.succ2_ne_self]
    rfl
  case S =>
    refine ⟨?_, ?_, ?_, ?_, ?_, ?_, ?_, ?_, ?_, ?_, ?_⟩
    · simp -implicitDefEqProofs only [get_ins, eq_self, Nat.reduceEqDiff, ↓reduceIte, h1]
    · simp -implicitDefEqProofs only [get_ins, eq_self, reduceCtorEq, ↓reduceIte, h0]
    · simp -implicitDefEqProofs only [get_ins, eq_self, Nat.reduceEqDiff, ↓reduceIte]
    · simp -implicitDefEqProofs only [get_ins, eq_self, Nat.reduceEqDiff, ↓reduceIte]
    · simp -implicitDefEqProofs only [get_ins, eq_self, ↓reduceIte]
    · simp -implicitDefEqProofs only [upd_same, eq_self, ↓reduceIte, blk_bump, blk_upd, K.self_ne_succ]
    · simp -implicitDefEqProofs only [upd_same, eq_self, blk_bump]
    · simp only [nxt_bump, nxt_upd, K.num_succ]; omega
    · simp only [nxt_bump, nxt_upd, K.num_succ]; omega
    · simp only [K.succ_ne_self]
    · simp only [K.self_ne_succ]
  case K =>
    constructor
    · simp only [nxt_bump, nxt_upd, K.num_succ]; omega
    · intro b hb
      have e1 : (b = nxt h) = False := eq_false fun e => by subst e; omega
      have e2 : (b = (nxt h).succ) = False := eq_false fun e => by subst e; rw [K.num_succ] at hb; omega
      have e3 : (b = (nxt h).succ.succ) = False := eq_false fun e => by subst e; rw [K.num_succ, K.num_succ] at hb; omega
      simp only [blk_bump, blk_upd, e1, e2, e3, if_false]
  case b => simp -implicitDefEqProofs only [upd_same, eq_self, ↓reduceIte, blk_bump, blk_upd, K.self_ne_succ, K.self_ne_succ2]
  case n => simp only [nxt_bump, nxt_upd, K.num_succ]; omega

theorem pre12a {v0 : V} {N : Nat} (h0 : T.get und (K.of 0) t = v0) (h1 : T.get und (K.of 1) t = .int .i64 (.ofNat N)) (h : Hp) (d : Dc) (fi : FI) :
    ∃ t1, T.get und (K.of 0) t1 = v0 ∧ T.get und (K.of 1) t1 = .int .i64 (.ofNat N) ∧ ∀ {L n : Nat} {k : KE}, exec (call EzC (L + 1) (n + 1)) (L + 1) fi p12_0 t d h k = k .normal t1 d h := by
  refine ⟨?t1, ?S, ?S', fun {L n k} => ?e⟩
  case e =>
    rw [p12_0]
    simp -implicitDefEqProofs only [↓normK_eq, ↓opsK_eq, ↓ops_all, putK_some, ↓exec_reg, ↓opsRun_nil, kv_eq, ev_c, op_mv]
    rfl
  case S => simp -implicitDefEqProofs only [get_ins, eq_self, reduceCtorEq, ↓reduceIte, h0]
  case S' => simp -implicitDefEqProofs only [get_ins, eq_self, Nat.reduceEqDiff, ↓reduceIte, h1]

theorem pre12b {v0 : V} {N : Nat} (h0 : T.get und (K.of 0) t = v0) (h1 : T.get und (K.of 1) t = .int .i64 (.ofNat N)) (h : Hp) (d : Dc) (fi : FI) :
    ∃ t1, T.get und (K.of 0) t1 = v0 ∧ T.get und (K.of 1) t1 = .int .i64 (.ofNat N) ∧ ∀ {L n : Nat} {k : KE}, exec (call EzC (L + 1) (n + 1)) (L + 1) fi p12_1 t d h k = k .normal t1 d h := by
  refine ⟨?t1, ?S, ?S', fun {L n k} => ?e⟩
  case e =>
    rw [p12_1]
    simp -implicitDefEqProofs only [↓normK_eq, ↓execK_eq, ↓opsK_eq, isT_bool, isF_bool, ↓ops_all, putK_some, ↓exec_skip, ↓exec_reg, ↓exec_seq, ↓exec_cond, ↓iterK_normal, ↓opsRun_nil, kv_eq, ev_t, ev_c, get_ins, op_mv, op_ibin, ib_lss_i64, ltI_ofNat, eq_self, Bool.not_false, Bool.false_eq_true, ↓reduceIte, h1, Nat.not_lt_zero, decide_false]
    rfl
  case S => simp -implicitDefEqProofs only [get_ins, eq_self, reduceCtorEq, ↓reduceIte, h0]
  case S' => simp -implicitDefEqProofs only [get_ins, eq_self, Nat.reduceEqDiff, ↓reduceIte, h1]

theorem call12 {N x : Nat} {r : Pw} (hN : N ≤ 9223372036854775807) (hs : SkR N (1, 0) (6364136223846793005, 1442695040888963407) r) (hx : x < 18446744073709551616) (h : Hp) :
    ∃ h', Keeps h h' ∧ ∀ {L n : Nat} {kc : KC}, N ≤ L → call EzC (L + 1) (n + 2) (.fn 12) [.int .u64 (.ofNat x), .int .i64 (.ofNat N)] none h kc = kc (.ret (.tup [.int .u64 (.ofNat (app r x)), .int .i64 (.ofNat 0)])) none h' := by
  obtain ⟨T0, hT⟩ : ∃ T0 : T V, T0 = T.ins und (.int .i64 (.ofNat N)) (K.of 1) (T.ins und (.int .u64 (.ofNat x)) (K.of 0) .l) := ⟨_, rfl⟩
  have q0 : T.get und (K.of 0) T0 = .int .u64 (.ofNat x) := by rw [hT]; simp -implicitDefEqProofs only [get_ins, eq_self, reduceCtorEq, ↓reduceIte]
  have q1 : T.get und (K.of 1) T0 = .int .i64 (.ofNat N) := by rw [hT]; simp -implicitDefEqProofs only [get_ins, eq_self, ↓reduceIte]
  obtain ⟨t1', c0, c1, e0⟩ := pre12a q0 q1 h (.mk [] none) (.mk 12 none)
  obtain ⟨t1, a0, a1, e1⟩ := pre12b c0 c1 h (.mk [] none) (.mk 12 none)
  obtain ⟨t2, h2, S2, K2, b2, n2, e2⟩ := init12 a0 a1 h (.mk [] none) (.mk 12 none)
  obtain ⟨t3, h3, one', S3, O3, e3⟩ := loop12 hs t2 h2 _ _ _ _ (.mk [] none) (.mk 12 none) hN S2
  have ne1 : nxt h ≠ (nxt h).succ := of_eq_false (K.self_ne_succ _)
  have ne2 : nxt h ≠ (nxt h).succ.succ := of_eq_false (K.self_ne_succ2 _)
  have b3 : blk h3 (nxt h) = .cells [.int .u64 (.ofNat 1), .int .u64 (.ofNat 0)] := (O3.2 _ n2 ne1 ne2).trans b2
  refine ⟨h3, ⟨Nat.le_trans K2.nx O3.1, fun b hb => ?_⟩, fun {L n kc} hL => ?_⟩
  · rw [O3.2 b (Nat.lt_of_lt_of_le hb K2.nx) (fun e => by subst e; rw [K.num_succ] at hb; omega) (fun e => by subst e; rw [K.num_succ, K.num_succ] at hb; omega)]
    exact K2.old b hb
  · rw [call_fn fn12, r12, c12]
    simp -implicitDefEqProofs only [putArgs_cons, putArgs_nil, Nat.zero_add, ↓bodyK_eq, ← hT, ↓exec_seq, e0, ↓execK_eq, ↓iterK_normal, e1, e2]
    rw [p12_3]
    simp -implicitDefEqProofs only [↓exec_block, exec_loop, e3 (show N < L + 1 by omega), ↓blockK_exit, ↓reduceIte, ↓iterK_normal, ↓execK_eq, ↓exec_seq]
    rw [p12_4, p12_5]
    have g0 := S3.t0
    have g6 := S3.t6
    have g7 := S3.t7
    have m7 := S3.m7
    by_cases heq : r = (1, 0)
    · have happ : app r x = x := by rw [heq]; simp only [app]; omega
      subst heq
      simp -implicitDefEqProofs only [↓normK_eq, ↓execK_eq, ↓opsK_eq, isT_bool, ↓ops_all, putK_some, ↓exec_reg, ↓exec_seq, ↓exec_cond, ↓exec_ret, ↓iterK_normal, ↓iterK_ret, ↓opsRun_nil, kv_eq, ev_t, ev_c, get_ins, op_mv, op_loadN, op_eqv, beqI_self, fnEnd_ret, res_nil, res_t, one_two, eq_self, Nat.reduceEqDiff, reduceCtorEq, Bool.and_self, ↓reduceIte, ldN_ptr, ldN_2, eq_u64_2, Nat.reduceAdd, g0, g6, g7, m7, b3, happ]
    · have hne : (decide (r.1 = 1) && decide (r.2 = 0)) = false := by
        rw [Bool.and_eq_false_iff, decide_eq_false_iff_not, decide_eq_false_iff_not]
        by_cases h1 : r.1 = 1
        · exact .inr fun h2 => heq (Prod.ext h1 h2)
        · exact .inl h1
      have happ : (x * r.1 % 18446744073709551616 + r.2) % 18446744073709551616 = app r x := by
        simp only [app]
        rw [Nat.add_mod, Nat.mod_mod, ← Nat.add_mod]
      simp -implicitDefEqProofs only [↓normK_eq, ↓execK_eq, ↓opsK_eq, isT_bool, isF_bool, ↓ops_all, putK_some, ↓exec_skip, ↓exec_reg, ↓exec_seq, ↓exec_cond, ↓exec_ret, ↓iterK_normal, ↓opsRun_nil, kv_eq, ev_t, ev_c, get_ins, op_mv, op_load1, op_loadN, op_ibin, op_eqv, op_idxA, beqI_ofNat, wrap_u64, ib_add_u64, ib_mul_u64, add_ofNat, mul_ofNat, fnEnd_ret, res_nil, res_t, one_two, eq_self, Nat.reduceEqDiff, reduceCtorEq, Bool.not_false, Bool.false_eq_true, ↓reduceIte, ld_ptr, ldN_ptr, ldB_0, ldB_1, ldN_2, idxA_nat, eq_u64_2, Nat.reduceAdd, Nat.zero_add, Nat.mul_one, Nat.zero_lt_succ, Nat.lt_add_one, g0, g6, g7, m7, b3, hne, happ]

end
end Go.AJ

