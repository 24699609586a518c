/- The loops of SimulOrders. -/
import Derived.Test.YtflhojkjjlfegaaGreatDoorL28n
namespace Go.AJ
open Go Go.Proofs
set_option maxRecDepth 100000

/-- Slots that stay. -/
def Kp (l : List Nat) (t t1 : T V) : Prop := ∀ q ∈ l, T.get und (K.of q) t1 = T.get und (K.of q) t
theorem Kp.refl (l : List Nat) (t : T V) : Kp l t t := fun _ _ => rfl
theorem Kp.trans {l : List Nat} {t t1 t2 : T V} (a : Kp l t t1) (b : Kp l t1 t2) : Kp l t t2 := fun q hq => (b q hq).trans (a q hq)

/-- A row of whole numbers, of either sign. -/
def zs (l : List Int) : List V := l.map fun n => .int .i64 n
theorem zs_length (l : List Int) : (zs l).length = l.length := by simp [zs]

section
variable {L n : Nat} {h : Hp} {kc : KC} {t : T V} {d : Dc} {k : KE} {fi : FI} {c : KV}

theorem ldB_zs {l : List Int} {i : Nat} (hi : i < l.length) : ldB (.cells (zs l)) i h c = c (.int .i64 (l.getD i 0)) h := by
  simp only [ldB]
  rw [nth_of (x := .int .i64 (l.getD i 0))]
  simp [zs, List.getD_eq_getElem?_getD, List.getElem?_eq_getElem hi]

theorem stB_zs {l : List Int} {i : Nat} {v : Int} {b : K} {f : Hp → Bool} (hi : i < l.length) : stB (.cells (zs l)) b i [.int .i64 v] h f = f (h.upd b (.cells (zs (l.set i v)))) := by
  simp only [stB]
  rw [splice_set (by rw [zs_length]; exact hi)]
  simp [zs]

theorem rep_zs (m : Nat) : rep m [.int .i64 (.ofNat 0)] = zs (List.replicate m 0) := by
  rw [rep_ints]
  simp [ints, zs, List.map_replicate]

/-! ### The first loop: place -/
structure P6 (t : T V) (h : Hp) (m i : Nat) (pz : List Int) (b8 : K) : Prop where
  t8 : T.get und (K.of 8) t = .sl b8 0 m m 0
  t49 : T.get und (K.of 49) t = .int .i64 (.ofNat m)
  t50 : T.get und (K.of 50) t = .int .i64 (.ofNat i)
  m8 : blk h b8 = .cells (zs pz)
  len : pz.length = m

theorem b6_0_done {m : Nat} {pz : List Int} {b8 : K} (S : P6 t h m m pz b8) (d : Dc) (fi : FI) : ∃ t1, Kp [0, 1, 5, 6, 8] t t1 ∧ ∀ {L n : Nat} {k : KE}, exec (call EzC (L + 1) n) (L + 1) fi b6_0 t d h k = k (.exit 0) t1 d h := by
  refine ⟨?t1, ?S, fun {L n k} => ?e⟩
  case e =>
    rw [b6_0]
    simp -implicitDefEqProofs only [↓normK_eq, ↓execK_eq, ↓opsK_eq, isT_bool, isF_bool, ↓ops_all, putK_some, ↓exec_reg, ↓exec_seq, ↓exec_cond, ↓exec_exit, ↓iterK_normal, ↓iterK_exit, ↓opsRun_nil, kv_eq, ev_t, get_ins, op_ibin, ib_lss_i64, ltI_ofNat, eq_self, Bool.not_false, Bool.false_eq_true, ↓reduceIte, S.t49, S.t50, Nat.lt_irrefl, decide_false]
    rfl
  case S => simp -implicitDefEqProofs only [Kp, List.mem_cons, List.not_mem_nil, or_false, forall_eq_or_imp, forall_eq, get_ins, eq_self, Nat.reduceEqDiff, reduceCtorEq, ↓reduceIte, and_self]

theorem b6_0_step {m i : Nat} {pz : List Int} {b8 : K} (hi : i < m) (hm : m ≤ 4000) (S : P6 t h m i pz b8) (d : Dc) (fi : FI) :
    ∃ t1, Kp [0, 1, 5, 6, 8] t t1 ∧ P6 t1 (h.upd b8 (.cells (zs (pz.set i (-1))))) m (i + 1) (pz.set i (-1)) b8 ∧ ∀ {L n : Nat} {k : KE}, exec (call EzC (L + 1) n) (L + 1) fi b6_0 t d h k = k .normal t1 d (h.upd b8 (.cells (zs (pz.set i (-1))))) := by
  have g1 : (i < m) = True := eq_true hi
  have f2 : wrapI .i64 (.ofNat (i + 1)) = .ofNat (i + 1) := wrap_i64 (by omega)
  have q3 : ∀ (h : Hp) (f : Hp → Bool), stB (.cells (zs pz)) b8 i [.int .i64 (.negSucc 0)] h f = f (h.upd b8 (.cells (zs (pz.set i (-1))))) := fun h f => stB_zs (by rw [S.len]; exact hi)
  refine ⟨?t1, ?K, ?S, fun {L n k} => ?e⟩
  case e =>
    rw [b6_0]
    simp -implicitDefEqProofs only [↓normK_eq, ↓execK_eq, ↓opsK_eq, isT_bool, ↓ops_all, putK_some, putK_none, ↓exec_skip, ↓exec_reg, ↓exec_seq, ↓exec_cond, ↓exec_block, ↓iterK_normal, ↓blockK_normal, ↓opsRun_nil, kv_eq, kh_eq, ev_t, ev_c, get_ins, op_mv, op_ibin, op_idx, op_store, ib_add_i64, ib_lss_i64, add_ofNat, ltI_ofNat, eq_self, Nat.reduceEqDiff, ↓reduceIte, st_int, idx_nat, Nat.zero_add, Nat.mul_one, S.t8, S.t49, S.t50, S.m8, g1, decide_true, q3, f2]
    rfl
  case K => simp -implicitDefEqProofs only [Kp, List.mem_cons, List.not_mem_nil, or_false, forall_eq_or_imp, forall_eq, get_ins, eq_self, Nat.reduceEqDiff, reduceCtorEq, ↓reduceIte, and_self]
  case S =>
    refine ⟨?_, ?_, ?_, upd_same, by rw [List.length_set]; exact S.len⟩ <;> simp -implicitDefEqProofs only [get_ins, eq_self, Nat.reduceEqDiff, ↓reduceIte, S.t8, S.t49]

/-- One block alone may have changed. -/
def Off1 (h h' : Hp) (b : K) : Prop := nxt h' = nxt h ∧ ∀ c, c ≠ b → blk h' c = blk h c
theorem Off1.refl (h : Hp) (b : K) : Off1 h h b := ⟨rfl, fun _ _ => rfl⟩
theorem Off1.upd (h : Hp) (b : K) (x : Blk) : Off1 h (h.upd b x) b := ⟨nxt_upd _ _ _, fun _c hc => upd_other hc⟩
theorem Off1.trans {h h1 h2 : Hp} {b : K} (x : Off1 h h1 b) (y : Off1 h1 h2 b) : Off1 h h2 b := ⟨y.1.trans x.1, fun c hc => (y.2 c hc).trans (x.2 c hc)⟩

theorem loop6_0 {m : Nat} {b8 : K} (hm : m ≤ 4000) : ∀ (q i : Nat) (t : T V) (h : Hp) (pz : List Int) (d : Dc) (fi : FI), m = i + q → P6 t h m i pz b8 → (∀ a, a < i → pz.getD a 0 = -1) →
    ∃ t1 h1 pz', Kp [0, 1, 5, 6, 8] t t1 ∧ Off1 h h1 b8 ∧ blk h1 b8 = .cells (zs pz') ∧ pz'.length = m ∧ (∀ a, a < m → pz'.getD a 0 = -1) ∧ ∀ {L n M : Nat} {k : KE}, q < M → iter (exec (call EzC (L + 1) n) (L + 1) fi b6_0) M t d h k = k (.exit 0) t1 d h1 := by
  intro q
  induction q with
  | zero =>
    intro i t h pz d fi he S hp
    have hi : i = m := by omega
    subst hi
    obtain ⟨t1, K1, e⟩ := b6_0_done S d fi
    refine ⟨t1, h, pz, K1, Off1.refl _ _, S.m8, S.len, hp, fun {L n M k} hM => ?_⟩
    obtain ⟨q, rfl⟩ : ∃ q, M = q + 1 := ⟨M - 1, by omega⟩
    rw [iter_succ, e, iterK_exit]
  | succ q ih =>
    intro i t h pz d fi he S hp
    obtain ⟨t1, K1, S1, e⟩ := b6_0_step (by omega) hm S d fi
    obtain ⟨t2, h2, pz', K2, O2, m2, l2, p2, e2⟩ := ih (i + 1) t1 _ _ d fi (by omega) S1 (fun a ha => by
      rw [List.getD_eq_getElem?_getD, List.getElem?_set]
      by_cases hai : i = a
      · rw [if_pos hai, if_pos (by rw [S.len]; omega)]; rfl
      · rw [if_neg hai, ← List.getD_eq_getElem?_getD]; exact hp a (by omega))
    refine ⟨t2, h2, pz', K1.trans K2, (Off1.upd h b8 _).trans O2, m2, l2, p2, fun {L n M k} hM => ?_⟩
    obtain ⟨p, rfl⟩ : ∃ p, M = p + 1 := ⟨M - 1, by omega⟩
    rw [iter_succ, e, iterK_normal, e2 (by omega)]

/-! ### The second loop: each number once -/
structure Q6 (t : T V) (h : Hp) (m i : Nat) (l : List Nat) (pz : List Int) (b5 b8 : K) : Prop where
  t1 : T.get und (K.of 1) t = .int .i64 (.ofNat m)
  t8 : T.get und (K.of 8) t = .sl b8 0 m m 0
  t57 : T.get und (K.of 57) t = .sl b5 0 m m 0
  t58 : T.get und (K.of 58) t = .int .i64 (.ofNat m)
  t59 : T.get und (K.of 59) t = .int .i64 (.ofNat i)
  m5 : blk h b5 = .cells (ints l)
  m8 : blk h b8 = .cells (zs pz)
  len : pz.length = m

theorem b6_1_done {m : Nat} {l : List Nat} {pz : List Int} {b5 b8 : K} (S : Q6 t h m m l pz b5 b8) (d : Dc) (fi : FI) : ∃ t1, Kp [0, 1, 5, 6] t t1 ∧ ∀ {L n : Nat} {k : KE}, exec (call EzC (L + 1) n) (L + 1) fi b6_1 t d h k = k (.exit 2) t1 d h := by
  refine ⟨?t1, ?S, fun {L n k} => ?e⟩
  case e =>
    rw [b6_1]
    simp -implicitDefEqProofs only [↓normK_eq, ↓execK_eq, ↓opsK_eq, isT_bool, isF_bool, ↓ops_all, putK_some, ↓exec_reg, ↓exec_seq, ↓exec_cond, ↓exec_exit, ↓iterK_normal, ↓iterK_exit, ↓opsRun_nil, kv_eq, ev_t, get_ins, op_ibin, ib_lss_i64, ltI_ofNat, eq_self, Bool.not_false, Bool.false_eq_true, ↓reduceIte, S.t58, S.t59, Nat.lt_irrefl, decide_false]
    rfl
  case S => simp -implicitDefEqProofs only [Kp, List.mem_cons, List.not_mem_nil, or_false, forall_eq_or_imp, forall_eq, get_ins, eq_self, Nat.reduceEqDiff, reduceCtorEq, ↓reduceIte, and_self]

theorem b6_1_step {m i : Nat} {l : List Nat} {pz : List Int} {b5 b8 : K} (hi : i < m) (hm : m ≤ 4000) (hl : l.length = m) (hu : l.getD i 0 < m) (hp : pz.getD (l.getD i 0) 0 = -1) (S : Q6 t h m i l pz b5 b8) (hne : b5 ≠ b8) (d : Dc) (fi : FI) :
    ∃ t1, Kp [0, 1, 5, 6] t t1 ∧ Q6 t1 (h.upd b8 (.cells (zs (pz.set (l.getD i 0) (.ofNat i))))) m (i + 1) l (pz.set (l.getD i 0) (.ofNat i)) b5 b8 ∧ ∀ {L n : Nat} {k : KE}, exec (call EzC (L + 1) n) (L + 1) fi b6_1 t d h k = k .normal t1 d (h.upd b8 (.cells (zs (pz.set (l.getD i 0) (.ofNat i))))) := by
  obtain ⟨v, hv⟩ : ∃ v, v = l.getD i 0 := ⟨_, rfl⟩
  rw [← hv] at hu hp ⊢
  have g1 : (i < m) = True := eq_true hi
  have g2 : (v < m) = True := eq_true hu
  have g3 : (v < 0) = False := eq_false (by omega)
  have f2 : wrapI .i64 (.ofNat (i + 1)) = .ofNat (i + 1) := wrap_i64 (by omega)
  have q1 : ∀ (h : Hp) (c : KV), ldB (.cells (ints l)) i h c = c (.int .i64 (.ofNat v)) h := fun h c => by rw [hv]; exact ldB_ints (by omega)
  have q2 : ∀ (h : Hp) (c : KV), ldB (.cells (zs pz)) v h c = c (.int .i64 (.negSucc 0)) h := fun h c => by rw [ldB_zs (by rw [S.len]; exact hu), hp]; rfl
  have q3 : ∀ (h : Hp) (f : Hp → Bool), stB (.cells (zs pz)) b8 v [.int .i64 (.ofNat i)] h f = f (h.upd b8 (.cells (zs (pz.set v (.ofNat i))))) := fun h f => stB_zs (by rw [S.len]; exact hu)
  have q4 : ltI (.negSucc 0) (.ofNat 0) = true := rfl
  refine ⟨?t1, ?K, ?S, fun {L n k} => ?e⟩
  case e =>
    rw [b6_1]
    simp -implicitDefEqProofs only [↓normK_eq, ↓execK_eq, ↓opsK_eq, isT_bool, isF_bool, ↓ops_all, ↓ops_some, putK_some, putK_none, ↓exec_skip, ↓exec_reg, ↓exec_seq, ↓exec_cond, ↓exec_block, ↓iterK_normal, ↓blockK_normal, ↓opsRun_nil, wantB_bool, kv_eq, kh_eq, ev_t, ev_c, get_ins, op_mv, op_pick, op_load1, op_ibin, op_idx, op_store, pick_bool, ib_add_i64, ib_lss_i64, ib_geq_i64, add_ofNat, ltI_ofNat, eq_self, Nat.reduceEqDiff, Bool.not_true, Bool.not_false, Bool.false_eq_true, beq_self_eq_true, ↓reduceIte, ld_ptr, st_int, idx_nat, Nat.zero_add, Nat.mul_one, S.t1, S.t8, S.t57, S.t58, S.t59, S.m5, S.m8, g1, g2, g3, decide_true, decide_false, q1, q2, q3, q4, f2]
    rfl
  case K => simp -implicitDefEqProofs only [Kp, List.mem_cons, List.not_mem_nil, or_false, forall_eq_or_imp, forall_eq, get_ins, eq_self, Nat.reduceEqDiff, reduceCtorEq, ↓reduceIte, and_self]
  case S =>
    refine ⟨?_, ?_, ?_, ?_, ?_, (upd_other hne).trans S.m5, upd_same, by rw [List.length_set]; exact S.len⟩ <;> simp -implicitDefEqProofs only [get_ins, eq_self, Nat.reduceEqDiff, ↓reduceIte, S.t1, S.t8, S.t57, S.t58]

theorem loop6_1 {m : Nat} {l : List Nat} {b5 b8 : K} (hm : m ≤ 4000) (hl : l.length = m) (hd : Dis l) (hu : Und m l) (hne : b5 ≠ b8) : ∀ (q i : Nat) (t : T V) (h : Hp) (pz : List Int) (d : Dc) (fi : FI), m = i + q → Q6 t h m i l pz b5 b8 → (∀ v, v < m → (∀ a, a < i → l.getD a 0 ≠ v) → pz.getD v 0 = -1) →
    ∃ t1 h1, Kp [0, 1, 5, 6] t t1 ∧ Off1 h h1 b8 ∧ ∀ {L n M : Nat} {k : KE}, q < M → iter (exec (call EzC (L + 1) n) (L + 1) fi b6_1) M t d h k = k (.exit 2) t1 d h1 := by
  intro q
  induction q with
  | zero =>
    intro i t h pz d fi he S hp
    have hi : i = m := by omega
    subst hi
    obtain ⟨t1, K1, e⟩ := b6_1_done S d fi
    refine ⟨t1, h, K1, Off1.refl _ _, fun {L n M k} hM => ?_⟩
    obtain ⟨q, rfl⟩ : ∃ q, M = q + 1 := ⟨M - 1, by omega⟩
    rw [iter_succ, e, iterK_exit]
  | succ q ih =>
    intro i t h pz d fi he S hp
    have hlt : l.getD i 0 < m := hu i (by omega)
    obtain ⟨t1, K1, S1, e⟩ := b6_1_step (by omega) hm hl hlt (hp _ hlt fun a ha he => by have := hd a i (by omega) (by omega) he; omega) S hne d fi
    obtain ⟨t2, h2, K2, O2, e2⟩ := ih (i + 1) t1 _ _ d fi (by omega) S1 (fun v hv hn => by
      rw [List.getD_eq_getElem?_getD, List.getElem?_set, if_neg (hn i (by omega)), ← List.getD_eq_getElem?_getD]
      exact hp v hv fun a ha => hn a (by omega))
    refine ⟨t2, h2, K1.trans K2, (Off1.upd h b8 _).trans O2, fun {L n M k} hM => ?_⟩
    obtain ⟨p, rfl⟩ : ∃ p, M = p + 1 := ⟨M - 1, by omega⟩
    rw [iter_succ, e, iterK_normal, e2 (by omega)]

end
end Go.AJ

