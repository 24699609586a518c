/- The reference: values are compared. -/
import Derived.Test.YtgdbpnpolelfoaaGreatDoorCodeB
import Derived.Test.YtgdbpnpolelfoaaGreatDoorOa
set_option linter.all false
/- The reference: integers and texts are compared. -/
namespace Go.AJ
open Go
set_option maxRecDepth 100000
section
variable {E : Env} {L n : Nat} {h : Hp} {kc : KC} {t : T V} {d : Dc} {k : KE} {fi : FI} {c : KV}
theorem call1148 (hF : Hns E) {a b : Int} : call E (L + 1) (n + 1) (.fn 148) [.int .i64 a, .int .i64 b] none h kc = kc (.ret (.int .i64 (cmpI a b))) none h := by
 rw [call_fn hF.f1148, c1148, r1148, p1148_0, p1148_1, p1148_2, p1148_3]
 cases h1 : ltI a b <;> cases h2 : ltI b a <;> simp -implicitDefEqProofs (disch := exact tD) only [↓sD, sB, ↓reduceIte, Nat.reduceEqDiff, reduceCtorEq, Nat.reduceLT, Nat.reduceMul, Nat.reduceAdd, h1, h2, cmpI]
theorem op_cmpStr {C : CallF} {ks : KS} {kp : KP} {x y : X} {dst : Option K} : opRun C (.cmpStr x y) dst t d h ks kp = oCmpStr (ev t x) (ev t y) h (kv dst t d ks) := rfl
theorem ltL_tot (a b : List Nat) : ltL a b = true ∨ beqL a b = true ∨ ltL b a = true := by
 rcases cmpS_sg a b with h | h | h
 ·left; rw [cmpS_eq] at h; by_cases h1 : ltL a b = true
  ·exact h1
  ·rw [if_neg h1] at h; split at h <;> cases h
 ·right; left; exact beqL_iff.2 (cmpS_zero h)
 ·right; right; rw [cmpS_eq] at h; by_cases h1 : ltL a b = true
  ·rw [if_pos h1] at h; cases h
  ·rw [if_neg h1] at h; by_cases h2 : ltL b a = true
   ·exact h2
   ·rw [if_neg h2] at h; cases h
theorem cmpStr_eq {a b : List Nat} : oCmpStr (.str a) (.str b) h c = c (.int .i64 (cmpS a b)) h := by
 simp only [oCmpStr]
 cases h1 : ltL a b
 ·cases h2 : beqL a b
  ·have h3 : ltL b a = true := by
    rcases ltL_tot a b with h | h | h
    ·rw [h] at h1; cases h1
    ·rw [h] at h2; cases h2
    ·exact h
   have : cmpS a b = .ofNat 1 := by rw [cmpS_eq, h1, h3]; rfl
   rw [this]
  ·rw [beqL_iff.1 h2, cmpS_refl]; rfl
 ·have : cmpS a b = .negSucc 0 := by rw [cmpS_eq, h1]; rfl
  rw [this]
theorem call1205 (hF : Hns E) {a b : List Nat} : call E (L + 1) (n + 1) (.fn 205) [.str a, .str b] none h kc = kc (.ret (.int .i64 (cmpS a b))) none h := by
 rw [call_fn hF.f1205, c1205, r1205, p1205_0, p1205_1]
 exact Ssc (J2 @op_cmpStr @cmpStr_eq)
theorem call1150 (hF : Hns E) {a b : List Nat} : call E (L + 1) (n + 2) (.fn 150) [.str a, .str b] none h kc = kc (.ret (.int .i64 (cmpS a b))) none h := by
 rw [call_fn hF.f1150, c1150, r1150, p1150_0, p1150_1]
 simp -implicitDefEqProofs (disch := exact tD) only [↓sD, sB, ↓reduceIte, Nat.reduceEqDiff, reduceCtorEq, Nat.reduceLT, Nat.reduceMul, Nat.reduceAdd, call1205 hF]
theorem loop1204 (hF : Hns E) {xa xb : Bool} {ca cb : Nat} {a b : List Int} (hb : a.length ≤ 9223372036854775807) (hab : a.length = b.length) :
  ∀ (i : Nat) (M : Nat) (t : T V), i ≤ a.length → i + 1 ≤ M → T.get und (K.of 0) t = slR xa ca (intsZ a) a.length → T.get und (K.of 1) t = slR xb cb (intsZ b) b.length → T.get und (K.of 5) t = .int .i64 (dec i) →
  (cmpD a b i = 0 → ∀ t1, k (.exit 0) t1 d h = true) → (∀ t1, T.get und (K.of 4) t1 = .int .i64 (cmpD a b i) → k .ret t1 d h = true) →
  iter (exec (call E (L + 1) (n + 1)) (L + 1) fi b1204_0) M t d h k = true := by
 intro i
 induction i with
 | zero =>
  intro M t hi hM g0 g1 g5 hk hr
  obtain ⟨M, rfl⟩ := pM M
  rw [iter_succ, b1204_0]
  refine Sst (J3 g5 @dec_zero @ltI_neg) ?_
  exact hk rfl _
 | succ i ih =>
  intro M t hi hM g0 g1 g5 hk hr
  obtain ⟨M, rfl⟩ := pM M
  have e1 := fun c h => load1_rp (c := c) (h := h) (intsZ_get (l := a) (i := i) tO)
  have e2 := fun c h => load1_rp (c := c) (h := h) (intsZ_get (l := b) (i := i) tO)
  rw [iter_succ, b1204_0]
  rw [cmpD] at hk hr
  cases hc : beqI (a.getD i 0) (b.getD i 0)
  ·have hne : cmpI (a.getD i 0) (b.getD i 0) ≠ 0 := fun e => by
    rw [cmpI_zero.1 e, beqI_self] at hc; cases hc
   simp -implicitDefEqProofs (disch := exact tD) only [↓sD, sB, ↓reduceIte, Nat.reduceEqDiff, reduceCtorEq, Nat.reduceLT, Nat.reduceMul, Nat.reduceAdd, g0, g1, g5, dec_succ, ltI_ofNat, Nat.not_lt_zero, decide_false, idx_slR, e1, e2, hc, call1148 hF]
   refine hr _ ?_
   refine Sst0 ?_
   rw [orI_eq, if_neg hne]
  ·have he := beqI_iff.1 hc
   rw [he, cmpI_refl, orI_eq, if_pos rfl] at hk hr
   refine Tst (J9 g0 g1 g5 @dec_succ @Nat.not_lt_zero e1 e2 hc @wrap_dec) ?_
   refine ih M _ tO tO ?_ ?_ ?_ hk hr
   ·exact Ssc g0
   ·exact Ssc g1
   ·exact Ssc @wrap_dec
theorem call1204 (hF : Hns E) {xa xb : Bool} {ca cb : Nat} {a b : List Int} (hL : a.length ≤ L) (hb : a.length ≤ 9223372036854775807)
  (hk : kc (.ret (.int .i64 (cmpZ a b))) none h = true) :
  call E (L + 1) (n + 2) (.fn 204) [slR xa ca (intsZ a) a.length, slR xb cb (intsZ b) b.length] none h kc = true := by
 rw [call_fn hF.f1204, c1204, r1204, p1204_0, p1204_1, p1204_2, p1204_3]
 by_cases hab : a.length = b.length
 ·have hz : cmpZ a b = cmpD a b a.length := by rw [cmpZ, hab, cmpI_refl, orI_eq, if_pos rfl]
  rw [hz] at hk
  refine Sst (J3 hab @beqI_self @exec_loop) ?_
  refine loop1204 hF (xa := xa) (xb := xb) (ca := ca) (cb := cb) (a := a) (b := b) hb hab a.length _ _ (Nat.le_refl _) tO ?_ ?_ ?_ (fun hz t1 => ?_) (fun t1 g4 => ?_)
  ·exact Ssc hab
  ·exact Ssc0
  ·exact Ssc (J2 @wrap_dec hab)
  ·refine Sst0 ?_
   rw [hz] at hk; exact hk
  ·refine Sst g4 ?_
   exact hk
 ·have hne : cmpI (.ofNat a.length) (.ofNat b.length) ≠ 0 := fun e => hab (lens e)
  have hc : beqI (.ofNat a.length) (.ofNat b.length) = false := by
   rw [beqI_ofNat]; exact decide_eq_false hab
  simp -implicitDefEqProofs (disch := exact tD) only [↓sD, sB, ↓reduceIte, Nat.reduceEqDiff, reduceCtorEq, Nat.reduceLT, Nat.reduceMul, Nat.reduceAdd, hc, call1148 hF]
  rw [cmpZ, orI_eq, if_neg hne] at hk
  exact hk
theorem call1149 (hF : Hns E) {na nb xa xb : Bool} {ca cb : Nat} {a b : List Int} (hL : a.length ≤ L) (hL' : b.length ≤ L) (hb : a.length ≤ 9223372036854775807) (hb' : b.length ≤ 9223372036854775807)
  (hk : ∀ h1, Keeps h h1 → kc (.ret (.int .i64 (cmpNum na nb a b))) none h1 = true) :
  call E (L + 1) (n + 3) (.fn 149) [.agg [.bool na, slR xa ca (intsZ a) a.length], .agg [.bool nb, slR xb cb (intsZ b) b.length]] none h kc = true := by
 rw [call_fn hF.f1149, c1149, r1149, p1149_0, p1149_1, p1149_2, p1149_3]
 have K1 : Keeps h ((h.upd (nxt h) (.cells [.bool na, slR xa ca (intsZ a) a.length])).upd (nxt h).succ (.cells [.bool nb, slR xb cb (intsZ b) b.length])).bump.bump := kO
 have hk1 := hk _ K1
 rw [cmpNum_eq] at hk1
 by_cases hn : na = nb
 ·subst hn
  rw [if_pos rfl] at hk1
  cases na
  ·refine Sst @bne_self_eq_false.{0} ?_
   refine call1204 hF (n := n) hL hb ?_
   refine Sst0 ?_
   simpa using hk1
  ·refine Sst @bne_self_eq_false.{0} ?_
   refine call1204 hF (n := n) hL' hb' ?_
   refine Sst0 ?_
   rw [cmpZ_neg]
   simpa using hk1
 ·rw [if_neg hn] at hk1
  cases na <;> cases nb <;> first | exact absurd rfl hn | (simp -implicitDefEqProofs (disch := exact tD) only [↓sD, sB, ↓reduceIte, Nat.reduceEqDiff, reduceCtorEq, Nat.reduceLT, Nat.reduceMul, Nat.reduceAdd, Bool.bne_true, Bool.bne_false]; simpa using hk1)
end
end Go.AJ
/- The reference: values are compared. -/
namespace Go.AJ
open Go
set_option maxRecDepth 100000
section
variable {E : Env} {L n : Nat} {h : Hp} {kc : KC} {t : T V} {d : Dc} {k : KE} {fi : FI} {c : KV}
def CmpR (E : Env) (L n D : Nat) : Prop := ∀ (x y : Va) (h : Hp) (kc : KC), x.dep ≤ D → x.bulk ≤ L → y.bulk ≤ L → (∀ h1, Keeps h h1 → kc (.ret (.int .i64 (x.cmp y))) none h1 = true) →
 call E (L + 3) n (.fn 95) [.agg x.cells, .agg y.cells] none h kc = true
theorem loop1151 (hF : Hns E) {D : Nat} (hC : CmpR E L n D) {lb mb : Bool} {lc mc : Nat} {l m : List Va} (hl : l.length ≤ 9223372036854775807) (hlm : l.length = m.length) {h0 : Hp} :
  ∀ (lr mr : List Va) (i : Nat) (M : Nat) (t : T V) (h : Hp), l.drop i = lr → m.drop i = mr → depL lr ≤ D → bulkL lr ≤ L → bulkL mr ≤ L → lr.length + 1 ≤ M → i + lr.length = l.length → Keeps h0 h →
  T.get und (K.of 0) t = slR lb lc (rowsV l) l.length → T.get und (K.of 1) t = slR mb mc (rowsV m) m.length → T.get und (K.of 5) t = .int .i64 (.ofNat i) →
  (cmpL lr mr = 0 → ∀ t1 h1, Keeps h0 h1 → k (.exit 0) t1 d h1 = true) →
  (∀ t1 h1, Keeps h0 h1 → T.get und (K.of 4) t1 = .int .i64 (cmpL lr mr) → k .ret t1 d h1 = true) →
  iter (exec (call E (L + 3) n) (L + 3) fi b1151_0) M t d h k = true := by
 intro lr
 induction lr with
 | nil =>
  intro mr i M t h hlr hmr hd hb hb' hM hi K0 g0 g1 g5 hk hr
  obtain ⟨M, rfl⟩ := pM M
  have hi' : (i < l.length) = False := eq_false (by simp at hi; omega)
  rw [iter_succ, b1151_0]
  refine Tst (J3 g0 g5 hi') ?_
  exact hk (cmpL_nil _) _ _ K0
 | cons x lr ih =>
  intro mr i M t h hlr hmr hd hb hb' hM hi K0 g0 g1 g5 hk hr
  obtain ⟨M, rfl⟩ := pM M
  simp only [List.length_cons] at hi hM
  simp only [depL, bulkL] at hd hb
  have hi' : (i < l.length) = True := eT
  have hx : l[i]? = some x := by have := congrArg (·[0]?) hlr; simpa using this
  obtain ⟨y, mr', rfl⟩ : ∃ y mr', mr = y :: mr' := by
   cases mr with
   | nil => have := congrArg List.length hmr; simp at this; omega
   | cons y mr' => exact ⟨y, mr', rfl⟩
  simp only [bulkL] at hb'
  have hy : m[i]? = some y := by have := congrArg (·[0]?) hmr; simpa using this
  have e1 := fun c h => load7 (c := c) (h := h) hx
  have e2 := fun c h => load7 (c := c) (h := h) hy
  have him : (i < m.length) = True := eT
  rw [iter_succ, b1151_0]
  rw [cmpL_cc] at hk hr
  refine Tst (J8 g0 g1 g5 hi' him e1 e2 @veq_cells) ?_
  refine hC x y _ _ tO tO tO (fun h1 K1 => ?_)
  cases hc : beqI (x.cmp y) (.ofNat 0)
  ·have hne : x.cmp y ≠ 0 := fun e => by rw [e] at hc; cases hc
   rw [orI_eq, if_neg hne] at hr
   refine Sst hc ?_
   refine hr _ _ (K0.trans K1) ?_
   exact Ssc0
  ·have he : x.cmp y = 0 := beqI_iff.1 hc
   rw [he, orI_eq, if_pos rfl] at hk hr
   refine Sst (J2 hc g5) ?_
   refine ih mr' (i + 1) _ _ _ ?_ ?_ tO tO tO tO tO (K0.trans K1) ?_ ?_ ?_ hk hr
   ·have := congrArg (List.drop 1) hlr; simpa [List.drop_drop] using this
   ·have := congrArg (List.drop 1) hmr; simpa [List.drop_drop] using this
   ·exact Ssc g0
   ·exact Ssc g1
   ·exact Ssc0
theorem call1151 (hF : Hns E) {D : Nat} (hC : CmpR E L (n + 1) D) {lb mb : Bool} {lc mc : Nat} {l m : List Va} (hl : l.length ≤ 9223372036854775807) (hd : depL l ≤ D) (hb : bulkL l ≤ L) (hb' : bulkL m ≤ L) (hL : l.length ≤ L)
  (hk : ∀ h1, Keeps h h1 → kc (.ret (.int .i64 (cmpLs l m))) none h1 = true) :
  call E (L + 3) (n + 2) (.fn 151) [slR lb lc (rowsV l) l.length, slR mb mc (rowsV m) m.length] none h kc = true := by
 rw [call_fn hF.f1151, c1151, r1151, p1151_0, p1151_1, p1151_2, p1151_3]
 by_cases hlm : l.length = m.length
 ·have hz : cmpLs l m = cmpL l m := by rw [cmpLs_or, hlm, cmpI_refl, orI_eq, if_pos rfl]
  rw [hz] at hk
  refine Sst (J3 hlm @beqI_self @exec_loop) ?_
  refine loop1151 hF hC hl hlm (lb := lb) (lc := lc) (mb := mb) (mc := mc) (h0 := h) l m 0 _ _ _ (by simp) (by simp) hd hb hb' tO tO (.refl h) ?_ ?_ ?_ (fun hz t1 h1 K1 => ?_) (fun t1 h1 K1 g4 => ?_)
  ·exact Ssc hlm
  ·exact Ssc0
  ·exact Ssc0
  ·refine Sst0 ?_
   rw [hz] at hk; exact hk h1 K1
  ·refine Sst g4 ?_
   exact hk h1 K1
 ·have hne : cmpI (.ofNat l.length) (.ofNat m.length) ≠ 0 := fun e => hlm (lens e)
  have hc : beqI (.ofNat l.length) (.ofNat m.length) = false := by
   rw [beqI_ofNat]; exact decide_eq_false hlm
  simp -implicitDefEqProofs (disch := exact tD) only [↓sD, sB, ↓reduceIte, Nat.reduceEqDiff, reduceCtorEq, Nat.reduceLT, Nat.reduceMul, Nat.reduceAdd, hc, call1148 hF]
  rw [cmpLs_or, orI_eq, if_neg hne] at hk
  exact hk h (.refl h)
theorem cmpR_ok (hF : Hns E) (hL9 : L ≤ 9223372036854775807) : ∀ (D n : Nat), CmpR E L (n + 2 * D + 4) D := by
 intro D
 induction D with
 | zero =>
  intro n x y h kc hd
  cases x
  simp only [Va.dep] at hd
  omega
 | succ D ih =>
  intro n x y h kc hd hb hb' hk
  have ih' : CmpR E L ((n + 2 * D + 3) + 1) D := ih n
  obtain ⟨kind, nn, neg, db, dc, dd, s, lb, lc, l, mb, mc, m⟩ := x
  obtain ⟨kind', nn', neg', db', dc', dd', s', lb', lc', l', mb', mc', m'⟩ := y
  simp only [Va.dep] at hd
  simp only [Va.bulk] at hb hb'
  have hll : l.length ≤ bulkL l := len_bulk l
  have hml : m.length ≤ bulkL m := len_bulk m
  rw [Va.cmp_or] at hk
  rw [show n + 2 * (D + 1) + 4 = (n + 2 * D + 5) + 1 by omega]
  simp only [Va.cells]
  rw [call_fn hF.f1095, c1095, r1095, p1095_0, p1095_1, p1095_2, p1095_3, p1095_4, p1095_5, p1095_6, p1095_7]
  have K0 : Keeps h ((h.upd (nxt h) (.cells [.int .i64 kind, .int .i64 nn, .bool neg, slR db dc (intsZ dd) dd.length, .str s, slR lb lc (rowsV l) l.length, slR mb mc (rowsV m) m.length])).upd (nxt h).succ (.cells [.int .i64 kind', .int .i64 nn', .bool neg', slR db' dc' (intsZ dd') dd'.length, .str s', slR lb' lc' (rowsV l') l'.length, slR mb' mc' (rowsV m') m'.length])).bump.bump := kO
  cases h1 : beqI kind kind'
  ·have hne : cmpI kind kind' ≠ 0 := fun e => by rw [cmpI_zero.1 e, beqI_self] at h1; cases h1
   simp -implicitDefEqProofs (disch := exact tD) only [↓sD, sB, ↓reduceIte, Nat.reduceEqDiff, reduceCtorEq, Nat.reduceLT, Nat.reduceMul, Nat.reduceAdd, h1, call1148 hF]
   rw [orI_eq (orI _ _), orI_eq (cmpI kind kind'), if_neg hne, if_neg hne] at hk
   exact hk _ K0
  have e1 := beqI_iff.1 h1
  subst e1
  cases h2 : beqI nn nn'
  ·have hne : cmpI nn nn' ≠ 0 := fun e => by rw [cmpI_zero.1 e, beqI_self] at h2; cases h2
   simp -implicitDefEqProofs (disch := exact tD) only [↓sD, sB, ↓reduceIte, Nat.reduceEqDiff, reduceCtorEq, Nat.reduceLT, Nat.reduceMul, Nat.reduceAdd, h1, h2, call1148 hF]
   rw [orI_eq (orI _ _), orI_eq (cmpI kind kind), cmpI_refl, if_pos rfl, if_neg hne] at hk
   exact hk _ K0
  have e2 := beqI_iff.1 h2
  subst e2
  rw [cmpI_refl, cmpI_refl, or00, orI_eq 0, if_pos rfl] at hk
  refine Sst (J2 h1 h2) ?_
  refine call1149 hF (L := L + 2) (n := n + 2 * D + 2) (a := dd) (b := dd') tO tO tO tO (fun a1 K1 => ?_)
  have n1 := K1.nx
  simp only [nB] at n1
  have m2 := K1.old (nxt h) tN
  have m3 := K1.old (nxt h).succ tN
  simp -implicitDefEqProofs (disch := exact tD) only [↓sD, sB, ↓reduceIte, Nat.reduceEqDiff, reduceCtorEq, Nat.reduceLT, Nat.reduceMul, Nat.reduceAdd] at m2 m3
  have Ka : Keeps h a1 := K0.trans K1
  cases h3 : beqI (cmpNum neg neg' dd dd') (.ofNat 0)
  ·have hne : cmpNum neg neg' dd dd' ≠ 0 := fun e => by rw [e] at h3; cases h3
   refine Sst h3 ?_
   rw [orI_eq (orI _ _), orI_eq (cmpNum neg neg' dd dd'), if_neg hne, if_neg hne] at hk
   exact hk _ Ka
  have e3 : cmpNum neg neg' dd dd' = 0 := beqI_iff.1 h3
  rw [e3, orI_eq 0 (cmpS s s'), if_pos rfl] at hk
  cases h4 : beqI (cmpS s s') (.ofNat 0)
  ·have hne : cmpS s s' ≠ 0 := fun e => by rw [e] at h4; cases h4
   simp -implicitDefEqProofs (disch := exact tD) only [↓sD, sB, ↓reduceIte, Nat.reduceEqDiff, reduceCtorEq, Nat.reduceLT, Nat.reduceMul, Nat.reduceAdd, h3, h4, m2, m3, call1150 hF]
   rw [orI_eq, if_neg hne] at hk
   exact hk _ Ka
  have e4 : cmpS s s' = 0 := beqI_iff.1 h4
  rw [e4, orI_eq 0, if_pos rfl, ← cmpLs_or, ← cmpLs_or] at hk
  simp -implicitDefEqProofs (disch := first | assumption | ((try simp only [dB]); first | done | omega)) only [↓sD, sB, ↓reduceIte, Nat.reduceEqDiff, reduceCtorEq, Nat.reduceLT, Nat.reduceMul, Nat.reduceAdd, h3, h4, m2, m3, call1150 hF]
  refine call1151 hF ih' tO tO tO tO tO (fun a2 K2 => ?_)
  have n2 := K2.nx
  have m4 := K2.old (nxt h) tN
  have m5 := K2.old (nxt h).succ tN
  rw [m2] at m4
  rw [m3] at m5
  cases h5 : beqI (cmpLs l l') (.ofNat 0)
  ·have hne : cmpLs l l' ≠ 0 := fun e => by rw [e] at h5; cases h5
   refine Sst h5 ?_
   rw [orI_eq, if_neg hne] at hk
   exact hk _ (Ka.trans K2)
  have e5 : cmpLs l l' = 0 := beqI_iff.1 h5
  rw [e5, orI_eq 0, if_pos rfl] at hk
  refine Sst (J3 h5 m4 m5) ?_
  refine call1151 hF ih' tO tO tO tO tO (fun a3 K3 => ?_)
  refine Sst0 ?_
  exact hk _ ((Ka.trans K2).trans K3)
theorem call1095 (hF : Hns E) (hL9 : L ≤ 9223372036854775807) {x y : Va} {D : Nat} (hd : x.dep ≤ D) (hb : x.bulk ≤ L) (hb' : y.bulk ≤ L) (hn : 2 * D + 4 ≤ n) (hk : ∀ h1, Keeps h h1 → kc (.ret (.int .i64 (x.cmp y))) none h1 = true) :
  call E (L + 3) n (.fn 95) [.agg x.cells, .agg y.cells] none h kc = true := by
 obtain ⟨m, rfl⟩ : ∃ m, n = m + 2 * D + 4 := ⟨n - (2 * D + 4), by omega⟩
 exact cmpR_ok hF hL9 D m x y h kc hd hb hb' hk
end
end Go.AJ
