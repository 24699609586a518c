/- The walk of the law. -/
import Derived.Test.YtgdbpnpolelfoaaGreatDoorRd
import Derived.Test.YtgdbpnpolelfoaaGreatDoorOc
import Derived.Test.YtgdbpnpolelfoaaGreatDoorWe
set_option linter.all false
/- What the law reaches: few, IsSorted, Contains. -/
namespace Go.AJ
open Go
set_option maxRecDepth 100000
def bls (l : List Bool) : List V := l.map fun b => .bool b
theorem bls_length (l : List Bool) : (bls l).length = l.length := by simp [bls]
theorem bls_set (l : List Bool) (i : Nat) (b : Bool) : (bls l).set i (.bool b) = bls (l.set i b) := by simp [bls, List.map_set]
section
variable {E : Env} {L n N : Nat} {h : Hp} {kc : KC} {t : T V} {d : Dc} {k : KE} {fi : FI} {c : KV} {C : CallF}
theorem ldB_bls {l : List Bool} {i : Nat} (hi : i < l.length) : ldB (.cells (bls l)) i h c = c (.bool (l.getD i false)) h := ldB_get (by
 simp [bls, List.getD_eq_getElem?_getD, List.getElem?_eq_getElem hi])
theorem mk_none {z : List V} : oMk t z [] h c = c (.agg z) h := rfl
theorem call1007 (hE : Fns E) (hF : Hns E) (hn2 : 244 ≤ n) (hLL : 102 ≤ L) (hL9 : L ≤ 9223372036854775800) {g : Gr} (hb : g.bulk ≤ L)
  (hk : ∀ b h1, Keeps h h1 → kc (.ret (.bool b)) none h1 = true) :
  call E (L + 3) (n + 7) (.fn 7) [.agg g.cells] none h kc = true := by
 have hbb : g.states.length + bulkS g.states + g.init.length + 2 * g.edges.length ≤ L := hb
 have K0 : Keeps h (h.upd (nxt h) (.cells g.cells)).bump := kO
 have e1 : ∀ (t : T V) (h : Hp) (c : KV), oMk t zeroS [] h c = c (.agg zeroS) h := fun _ _ _ => rfl
 simp only [Gr.cells] at K0 ⊢
 rw [call_fn hF.f1007, c1007, r1007, p1007_0, p1007_1]
 by_cases c1 : 300 < g.states.length
 ·simp -implicitDefEqProofs (disch := exact tD) only [↓sD, sB, ↓reduceIte, Nat.reduceEqDiff, reduceCtorEq, Nat.reduceLT, Nat.reduceMul, Nat.reduceAdd, ltI_ofNat, c1, decide_true]
  exact hk _ _ K0
 ·by_cases c2 : 400 < g.init.length
  ·simp -implicitDefEqProofs (disch := exact tD) only [↓sD, sB, ↓reduceIte, Nat.reduceEqDiff, reduceCtorEq, Nat.reduceLT, Nat.reduceMul, Nat.reduceAdd, ltI_ofNat, c1, c2, decide_true, decide_false]
   exact hk _ _ K0
  ·by_cases c3 : 3000 < g.edges.length
   ·simp -implicitDefEqProofs (disch := exact tD) only [↓sD, sB, ↓reduceIte, Nat.reduceEqDiff, reduceCtorEq, Nat.reduceLT, Nat.reduceMul, Nat.reduceAdd, ltI_ofNat, c1, c2, c3, decide_true, decide_false]
    exact hk _ _ K0
   ·simp -implicitDefEqProofs (disch := first | assumption | ((try simp only [dB]); first | done | omega)) only [↓sD, sB, ↓reduceIte, Nat.reduceEqDiff, reduceCtorEq, Nat.reduceLT, Nat.reduceMul, Nat.reduceAdd, ltI_ofNat, c1, c2, c3, decide_true, decide_false, mk_none]
    change call E (L + 3) (n + 6) (.fn 45) [.agg zeroS, slR g.sb g.sc (rowsS g.states) g.states.length] none _ _ = true
    refine call31 hE hn2 hLL hL9 tO tO (fun b h1 K1 => ?_)
    refine Sst0 ?_
    exact hk _ h1 (K0.trans K1)
theorem call1066 (hE : Fns E) (hF : Hns E) {a b : Int} : call E (L + 1) (n + 2) (.fn 66) [.int .i64 a, .int .i64 b] none h kc = kc (.ret (.bool (ltI a b))) none h := by
 rw [call_fn hF.f1066, c1066, r1066, p1066_0, p1066_1]
 simp -implicitDefEqProofs (disch := exact tD) only [↓sD, sB, ↓reduceIte, Nat.reduceEqDiff, reduceCtorEq, Nat.reduceLT, Nat.reduceMul, Nat.reduceAdd, call63 hE]
theorem loop1029 (hE : Fns E) (hF : Hns E) {bl : K} {l : List Nat} (mb : blk h bl = .cells (ints l)) (hl : l.length ≤ 20000) (hm : ∀ i, i + 1 < l.length → l.getD i 0 ≤ l.getD (i + 1) 0) :
  ∀ (i M : Nat) (t : T V), i < l.length → i + 1 ≤ M → T.get und (K.of 0) t = .sl bl 0 l.length l.length 0 → T.get und (K.of 3) t = .int .i64 (.ofNat i) →
  (∀ t1, k (.exit 0) t1 d h = true) →
  iter (exec (call E (L + 1) (n + 2)) (L + 1) fi b1029_0) M t d h k = true := by
 intro i
 induction i with
 | zero =>
  intro M t hi hM g0 g3 hk
  obtain ⟨M, rfl⟩ := pM M
  rw [iter_succ, b1029_0]
  refine Tst (J2 g3 @Nat.lt_irrefl) ?_
  exact hk _
 | succ i ih =>
  intro M t hi hM g0 g3 hk
  obtain ⟨M, rfl⟩ := pM M
  have h1 : (0 < i + 1) = True := eT
  have h2 : (i + 1 < l.length) = True := eq_true hi
  have h3 : (i < l.length) = True := eT
  have e1 : ∀ (h : Hp) (c : KV), ldB (.cells (ints l)) (i + 1) h c = c (.int .i64 (.ofNat (l.getD (i + 1) 0))) h := fun h c => ldB_ints hi
  have e2 : ∀ (h : Hp) (c : KV), ldB (.cells (ints l)) i h c = c (.int .i64 (.ofNat (l.getD i 0))) h := fun h c => ldB_ints tO
  have e3 : wrapI .i64 (Int.sub (.ofNat (i + 1)) (.ofNat 1)) = .ofNat i := wrap_dec (i := i + 1) tO
  have h4 : (l.getD (i + 1) 0 < l.getD i 0) = False := eq_false (by have := hm i hi; omega)
  rw [iter_succ, b1029_0]
  simp -implicitDefEqProofs (disch := exact tD) only [↓sD, sB, ↓reduceIte, Nat.reduceEqDiff, reduceCtorEq, Nat.reduceLT, Nat.reduceMul, Nat.reduceAdd, g0, g3, ltI_ofNat, h1, h2, h3, decide_true, decide_false, idx_sl, mb, Nat.mul_one, Nat.zero_add, e1, e2, e3, call1066 hE hF, h4]
  refine ih M _ tO tO ?_ ?_ hk
  ·exact Ssc g0
  ·exact Ssc0
theorem call1029 (hE : Fns E) (hF : Hns E) {bl : K} {l : List Nat} (mb : blk h bl = .cells (ints l)) (hl : l.length ≤ 20000) (hL : l.length ≤ L) (hm : ∀ i, i + 1 < l.length → l.getD i 0 ≤ l.getD (i + 1) 0) (hk : kc (.ret (.bool true)) none h = true) :
  call E (L + 1) (n + 3) (.fn 29) [.sl bl 0 l.length l.length 0] none h kc = true := by
 rw [call_fn hF.f1029, c1029, r1029, p1029_0, p1029_1, p1029_2]
 by_cases hz : l.length = 0
 ·have e3 : wrapI .i64 (Int.sub (.ofNat 0) (.ofNat 1)) = .negSucc 0 := rfl
  simp -implicitDefEqProofs (disch := exact tD) only [↓sD, sB, ↓reduceIte, Nat.reduceEqDiff, reduceCtorEq, Nat.reduceLT, Nat.reduceMul, Nat.reduceAdd, hz, e3, exec_loop, iter_succ, b1029_0, ltI_pos, ltI_neg]
  exact hk
 ·have e3 : wrapI .i64 (Int.sub (.ofNat l.length) (.ofNat 1)) = .ofNat (l.length - 1) := by
   obtain ⟨m, hm⟩ : ∃ m, l.length = m + 1 := ⟨l.length - 1, by omega⟩
   rw [hm]; exact wrap_dec (i := m + 1) tO
  refine Sst (J2 e3 @exec_loop) ?_
  refine loop1029 hE hF mb hl hm (l.length - 1) _ _ tO tO ?_ ?_ (fun t1 => ?_)
  ·exact Ssc0
  ·exact Ssc0
  ·refine Sst0 ?_
   exact hk
theorem loop1067 {bh : K} {l : List Bool} (mb : blk h bh = .cells (bls l)) (hl : l.length ≤ 20000) (hm : ∀ i, i < l.length → l.getD i false = true) :
  ∀ (m i M : Nat) (t : T V), i + m = l.length → m + 1 ≤ M → T.get und (K.of 0) t = .sl bh 0 l.length l.length 0 → T.get und (K.of 1) t = .bool false → T.get und (K.of 7) t = .int .i64 (.ofNat l.length) → T.get und (K.of 8) t = .int .i64 (.ofNat i) →
  (∀ t1, k (.exit 0) t1 d h = true) →
  iter (exec C L fi b1067_0) M t d h k = true := by
 intro m
 induction m with
 | zero =>
  intro i M t hi hM g0 g1 g7 g8 hk
  obtain ⟨M, rfl⟩ := pM M
  have hi' : (i < l.length) = False := eF
  rw [iter_succ, b1067_0]
  refine Tst (J3 g7 g8 hi') ?_
  exact hk _
 | succ m ih =>
  intro i M t hi hM g0 g1 g7 g8 hk
  obtain ⟨M, rfl⟩ := pM M
  have hi' : (i < l.length) = True := eT
  have e1 : ∀ (h : Hp) (c : KV), ldB (.cells (bls l)) i h c = c (.bool true) h := fun h c => by rw [ldB_bls tO, hm i tO]
  have e2 : (false == true) = false := rfl
  rw [iter_succ, b1067_0]
  refine Tst (J12 g0 g1 g7 g8 hi' @idx_sl mb @Nat.mul_one @Nat.zero_add e1 e2 @bne_self_eq_false.{0}) ?_
  refine ih (i + 1) M _ tO tO ?_ ?_ ?_ ?_ hk
  ·exact Ssc g0
  ·exact Ssc g1
  ·exact Ssc g7
  ·exact Ssc0
theorem call1030 (hF : Hns E) {bh : K} {l : List Bool} (mb : blk h bh = .cells (bls l)) (hl : l.length ≤ 20000) (hL : l.length ≤ L) (hm : ∀ i, i < l.length → l.getD i false = true) (hk : kc (.ret (.bool false)) none h = true) :
  call E (L + 1) (n + 2) (.fn 30) [.sl bh 0 l.length l.length 0, .bool false] none h kc = true := by
 rw [call_fn hF.f1030, c1030, r1030, p1030_0, p1030_1]
 refine Sst0 ?_
 rw [call_fn hF.f1067, c1067, r1067, p1067_0, p1067_1, p1067_2]
 refine Sst @exec_loop ?_
 refine loop1067 mb hl hm l.length 0 _ _ tO tO ?_ ?_ ?_ ?_ (fun t1 => ?_)
 ·exact Ssc0
 ·exact Ssc0
 ·exact Ssc0
 ·exact Ssc0
 ·refine Sst @ltI_neg ?_
  exact hk
end
end Go.AJ
/- The law SearchLevels: its loops. -/
namespace Go.AJ
open Go
set_option maxRecDepth 100000
section
variable {E : Env} {L n N : Nat} {h : Hp} {kc : KC} {t : T V} {d : Dc} {k : KE} {fi : FI} {c : KV} {C : CallF}
theorem reg5_0 {bl be : K} {lv : List Nat} {nn a b : Nat} (hll : lv.length = nn) (hle : ∀ j, lv.getD j 0 ≤ 20000) (ha : a < nn) (hb : b < nn) (ml : blk h bl = .cells (ints lv)) (me : blk h be = .cells [.int .i64 (.ofNat a), .int .i64 (.ofNat b)])
  (g3 : T.get und (K.of 3) t = .sl bl 0 nn nn 0) (g9 : T.get und (K.of 9) t = .ptr be 0)
  (hk : ∀ t1, Kp [1, 2, 3, 5, 9, 55, 56, 57] t t1 → T.get und (K.of 72) t1 = .bool (decide (lv.getD a 0 + 1 < lv.getD b 0)) → k .normal t1 d h = true) :
  exec C L fi q1005_0 t d h k = true := by
 have h1 : (a < nn) = True := eq_true ha
 have h2 : (b < nn) = True := eq_true hb
 have e1 : ∀ (h : Hp) (c : KV), ldB (.cells (ints lv)) a h c = c (.int .i64 (.ofNat (lv.getD a 0))) h := fun h c => ldB_ints tO
 have e2 : ∀ (h : Hp) (c : KV), ldB (.cells (ints lv)) b h c = c (.int .i64 (.ofNat (lv.getD b 0))) h := fun h c => ldB_ints tO
 have e3 : ldB (.cells [.int .i64 (.ofNat a), .int .i64 (.ofNat b)]) 1 = fun h c => c (.int .i64 (.ofNat b)) h := by funext h c; rfl
 have hx := hle a
 have e4 : wrapI .i64 (.ofNat (lv.getD a 0 + 1)) = .ofNat (lv.getD a 0 + 1) := wrap_i64 tO
 rw [q1005_0]
 refine Tst (J14 g3 g9 ml me h1 h2 @idx_sl @Nat.mul_one @Nat.zero_add @Nat.add_zero e1 e2 e3 e4) ?_
 refine hk _ ?_ ?_
 ·simp -implicitDefEqProofs only [Kp, kpB, Nat.reduceEqDiff, reduceCtorEq, ↓reduceIte]
 ·exact Ssc0
theorem reg5_1 {b1 bl be bh : K} {g : Gr} {lv : List Nat} {bs : List Bool} {nn a b : Nat} (hll : lv.length = nn) (hbl : bs.length = nn) (hle : ∀ j, lv.getD j 0 ≤ 20000) (ha : a < nn) (hb : b < nn) (mb : blk h b1 = .cells g.cells) (ml : blk h bl = .cells (ints lv)) (mh : blk h bh = .cells (bls bs)) (me : blk h be = .cells [.int .i64 (.ofNat a), .int .i64 (.ofNat b)])
  (g1 : T.get und (K.of 1) t = .ptr b1 0) (g3 : T.get und (K.of 3) t = .sl bl 0 nn nn 0) (g5 : T.get und (K.of 5) t = .sl bh 0 nn nn 0) (g9 : T.get und (K.of 9) t = .ptr be 0)
  (hk : ∀ t1, Kp [1, 2, 3, 5, 55, 56, 57] t t1 → k .normal t1 d (h.upd bh (.cells (bls (bs.set b (bs.getD b false || (decide (lv.getD b 0 = lv.getD a 0 + 1) && !decide (b < g.init.length))))))) = true) :
  exec C L fi q1005_1 t d h k = true := by
 simp only [Gr.cells] at mb
 have h1 : (a < nn) = True := eq_true ha
 have h2 : (b < nn) = True := eq_true hb
 have hbb : (b < (bls bs).length) = True := eq_true (by rw [bls_length]; omega)
 have e1 : ∀ (h : Hp) (c : KV), ldB (.cells (ints lv)) a h c = c (.int .i64 (.ofNat (lv.getD a 0))) h := fun h c => ldB_ints tO
 have e2 : ∀ (h : Hp) (c : KV), ldB (.cells (ints lv)) b h c = c (.int .i64 (.ofNat (lv.getD b 0))) h := fun h c => ldB_ints tO
 have e3 : ldB (.cells [.int .i64 (.ofNat a), .int .i64 (.ofNat b)]) 1 = fun h c => c (.int .i64 (.ofNat b)) h := by funext h c; rfl
 have e5 : ∀ (h : Hp) (c : KV), ldB (.cells (bls bs)) b h c = c (.bool (bs.getD b false)) h := fun h c => ldB_bls tO
 have hx := hle a
 have e4 : wrapI .i64 (.ofNat (lv.getD a 0 + 1)) = .ofNat (lv.getD a 0 + 1) := wrap_i64 tO
 have st : ∀ (x : Bool) (f : Hp → Bool), stB (.cells (bls bs)) bh b [.bool x] h f = f (h.upd bh (.cells (bls (bs.set b x)))) := fun x f => by
  rw [stB_set (by rw [bls_length]; omega), bls_set]
 rw [q1005_1]
 cases c1 : bs.getD b false
 ·cases c2 : decide (lv.getD b 0 = lv.getD a 0 + 1)
  ·simp -implicitDefEqProofs (disch := exact tD) only [↓sD, sB, ↓reduceIte, Nat.reduceEqDiff, reduceCtorEq, Nat.reduceLT, Nat.reduceMul, Nat.reduceAdd, g1, g3, g5, g9, mb, ml, mh, me, ltI_ofNat, beqI_ofNat, h1, h2, decide_true, idx_sl, Nat.mul_one, Nat.zero_add, Nat.add_zero, e1, e2, e3, e4, e5, c1, c2, st]
   rw [c1, c2] at hk
   refine hk _ ?_
   simp -implicitDefEqProofs only [Kp, kpB, Nat.reduceEqDiff, reduceCtorEq, ↓reduceIte]
  ·simp -implicitDefEqProofs (disch := exact tD) only [↓sD, sB, ↓reduceIte, Nat.reduceEqDiff, reduceCtorEq, Nat.reduceLT, Nat.reduceMul, Nat.reduceAdd, g1, g3, g5, g9, mb, ml, mh, me, ltI_ofNat, beqI_ofNat, h1, h2, decide_true, idx_sl, Nat.mul_one, Nat.zero_add, Nat.add_zero, e1, e2, e3, e4, e5, c1, c2, st]
   rw [c1, c2] at hk
   refine hk _ ?_
   simp -implicitDefEqProofs only [Kp, kpB, Nat.reduceEqDiff, reduceCtorEq, ↓reduceIte]
 ·simp -implicitDefEqProofs (disch := exact tD) only [↓sD, sB, ↓reduceIte, Nat.reduceEqDiff, reduceCtorEq, Nat.reduceLT, Nat.reduceMul, Nat.reduceAdd, g1, g3, g5, g9, mb, ml, mh, me, ltI_ofNat, beqI_ofNat, h1, h2, decide_true, idx_sl, Nat.mul_one, Nat.zero_add, Nat.add_zero, e1, e2, e3, e4, e5, c1, st]
  rw [c1, Bool.true_or] at hk
  refine hk _ ?_
  simp -implicitDefEqProofs only [Kp, kpB, Nat.reduceEqDiff, reduceCtorEq, ↓reduceIte]
theorem loop1005_0 {bl bh : K} {g : Gr} {lv : List Nat} {nn : Nat} (hll : lv.length = nn) (hkn : g.init.length ≤ nn) (hnn : nn ≤ 20000) (hi0 : ∀ j, j < g.init.length → lv.getD j 0 = 0) {h0 : Hp} (nl : bl.num < (nxt h0).num) (nh : bh.num < (nxt h0).num) (hne : bl ≠ bh) (ml : blk h0 bl = .cells (ints lv)) :
  ∀ (r : List Int) (i M : Nat) (t : T V) (h : Hp) (bs : List Bool), g.init.drop i = r → i + r.length = g.init.length → r.length + 1 ≤ M → initOK i r = true → bs.length = nn → (∀ j, j < i → bs.getD j false = true) → KeepsBut [bh] h0 h → blk h bh = .cells (bls bs) →
  T.get und (K.of 3) t = .sl bl 0 nn nn 0 → T.get und (K.of 5) t = .sl bh 0 nn nn 0 → T.get und (K.of 39) t = slR g.ib g.ic (intsZ g.init) g.init.length → T.get und (K.of 40) t = .int .i64 (.ofNat g.init.length) → T.get und (K.of 41) t = .int .i64 (.ofNat i) →
  (∀ t1 h1 bs1, bs1.length = nn → (∀ j, j < g.init.length → bs1.getD j false = true) → KeepsBut [bh] h0 h1 → blk h1 bh = .cells (bls bs1) → Kp [1, 2, 3, 5] t t1 → k (.exit 0) t1 d h1 = true) →
  iter (exec C L fi b1005_0) M t d h k = true := by
 intro r
 induction r with
 | nil =>
  intro i M t h bs hr hi hM hin hbl hbs K0 mh g3 g5 g39 g40 g41 hk
  obtain ⟨M, rfl⟩ := pM M
  simp only [List.length_nil] at hi
  have hi' : (i < g.init.length) = False := eF
  rw [iter_succ, b1005_0]
  refine Tst (J3 g40 g41 hi') ?_
  refine hk _ h bs hbl (fun j hj => hbs j tO) K0 mh ?_
  simp -implicitDefEqProofs only [Kp, kpB, Nat.reduceEqDiff, reduceCtorEq, ↓reduceIte]
 | cons x r ih =>
  intro i M t h bs hr hi hM hin hbl hbs K0 mh g3 g5 g39 g40 g41 hk
  obtain ⟨M, rfl⟩ := pM M
  simp only [List.length_cons] at hi hM
  rw [initOK, Bool.and_eq_true] at hin
  have hx : x = .ofNat i := beqI_iff.1 hin.1
  have hi' : (i < g.init.length) = True := eT
  have hin2 : (i < nn) = True := eT
  have hxd : g.init.getD i 0 = .ofNat i := by rw [List.getD_eq_getElem?_getD, at_drop hr, ← hx]; rfl
  have e1 := fun c h => load1_rp (c := c) (h := h) (intsZ_get (l := g.init) (i := i) tO)
  simp only [hxd] at e1
  have mlh : blk h bl = .cells (ints lv) := (K0.old bl nl (by simp [hne])).trans ml
  have e2 : ∀ (h : Hp) (c : KV), ldB (.cells (ints lv)) i h c = c (.int .i64 (.ofNat 0)) h := fun h c => by rw [ldB_ints tO, hi0 i tO]
  have st : ∀ (y : Bool) (f : Hp → Bool), stB (.cells (bls bs)) bh i [.bool y] h f = f (h.upd bh (.cells (bls (bs.set i y)))) := fun y f => by
   rw [stB_set (by rw [bls_length]; omega), bls_set]
  rw [iter_succ, b1005_0]
  simp -implicitDefEqProofs (disch := exact tD) only [↓sD, sB, ↓reduceIte, Nat.reduceEqDiff, reduceCtorEq, Nat.reduceLT, Nat.reduceMul, Nat.reduceAdd, g3, g5, g39, g40, g41, ltI_ofNat, hi', hin2, decide_true, idx_slR, idx_sl, Nat.mul_one, Nat.zero_add, Nat.add_zero, e1, mlh, mh, e2, beqI_self, st]
  refine ih (i + 1) M _ _ (bs.set i true) (drop_next hr) tO tO hin.2 (by rw [List.length_set]; exact hbl) (fun j hj => ?_) (K0.put (.inr (by simp)) _) (by rw [upd_same]) ?_ ?_ ?_ ?_ ?_ (fun t1 h1 bs1 a1 a2 a3 a4 kp => hk t1 h1 bs1 a1 a2 a3 a4 (Kp.trans ?_ kp))
  ·by_cases e : j = i
   ·subst e
    rw [List.getD_eq_getElem?_getD, List.getElem?_set_self tO]; rfl
   ·rw [List.getD_eq_getElem?_getD, List.getElem?_set_ne (fun e2 => e e2.symm), ← List.getD_eq_getElem?_getD]; exact hbs j tO
  ·exact Ssc g3
  ·exact Ssc g5
  ·exact Ssc g39
  ·exact Ssc g40
  ·exact Ssc0
  ·simp -implicitDefEqProofs only [Kp, kpB, Nat.reduceEqDiff, reduceCtorEq, ↓reduceIte]
def Why (g : Gr) (lv : List Nat) (bs : List Bool) (r : List (Int × Int)) (j : Nat) : Prop := bs.getD j false = true ∨ ∃ a : Nat, (Int.ofNat a, Int.ofNat j) ∈ r ∧ lv.getD j 0 = lv.getD a 0 + 1 ∧ g.init.length ≤ j
theorem loop1005_1 {b1 bl bh : K} {g : Gr} {lv : List Nat} {nn : Nat} (hll : lv.length = nn) (hle : ∀ j, lv.getD j 0 ≤ 20000) (hlen : g.edges.length ≤ 100000) {h0 : Hp} (n1 : b1.num < (nxt h0).num) (nl : bl.num < (nxt h0).num) (nh : bh.num < (nxt h0).num) (hne : bl ≠ bh) (hne1 : b1 ≠ bh) (mb : blk h0 b1 = .cells g.cells) (ml : blk h0 bl = .cells (ints lv)) :
  ∀ (r : List (Int × Int)) (i M : Nat) (t : T V) (h : Hp) (bs : List Bool), g.edges.drop i = r → i + r.length = g.edges.length → r.length + 1 ≤ M → (∀ e ∈ r, ∃ a b : Nat, e = (Int.ofNat a, Int.ofNat b) ∧ a < nn ∧ b < nn ∧ lv.getD b 0 ≤ lv.getD a 0 + 1) → bs.length = nn → (∀ j, j < nn → Why g lv bs r j) → KeepsBut [bh] h0 h → blk h bh = .cells (bls bs) →
  T.get und (K.of 1) t = .ptr b1 0 → T.get und (K.of 3) t = .sl bl 0 nn nn 0 → T.get und (K.of 5) t = .sl bh 0 nn nn 0 → T.get und (K.of 55) t = slR g.eb g.ec (rowsE g.edges) g.edges.length → T.get und (K.of 56) t = .int .i64 (.ofNat g.edges.length) → T.get und (K.of 57) t = .int .i64 (.ofNat i) →
  (∀ t1 h1 bs1, bs1.length = nn → (∀ j, j < nn → bs1.getD j false = true) → KeepsBut [bh] h0 h1 → blk h1 bh = .cells (bls bs1) → T.get und (K.of 3) t1 = .sl bl 0 nn nn 0 → T.get und (K.of 5) t1 = .sl bh 0 nn nn 0 → k (.exit 2) t1 d h1 = true) →
  iter (exec C L fi b1005_1) M t d h k = true := by
 intro r
 induction r with
 | nil =>
  intro i M t h bs hr hi hM he hbl hw K0 mh g1 g3 g5 g55 g56 g57 hk
  obtain ⟨M, rfl⟩ := pM M
  simp only [List.length_nil] at hi
  have hi' : (i < g.edges.length) = False := eF
  rw [iter_succ, b1005_1]
  refine Tst (J3 g56 g57 hi') ?_
  refine hk _ h bs hbl (fun j hj => ?_) K0 mh (Ssc g3) (Ssc g5)
  rcases hw j hj with h1 | ⟨a, h1, _⟩
  ·exact h1
  ·cases h1
 | cons e r ih =>
  intro i M t h bs hr hi hM he hbl hw K0 mh g1 g3 g5 g55 g56 g57 hk
  obtain ⟨M, rfl⟩ := pM M
  simp only [List.length_cons] at hi hM
  obtain ⟨a, b, rfl, ha, hb, hab⟩ := he e (by simp)
  have hi' : (i < g.edges.length) = True := eT
  have e1 := fun c h => loadN_rp (c := c) (h := h) (rowsE_get (at_drop hr)) rfl
  have K1 : Keeps h (h.upd (nxt h) (.cells [.int .i64 (.ofNat a), .int .i64 (.ofNat b)])).bump := (Keeps.refl h).new _
  have n1h := K0.lt n1
  have nlh := K0.lt nl
  have nhh := K0.lt nh
  have mb1 := (K1.old b1 n1h).trans ((K0.old b1 n1 (by simp [hne1])).trans mb)
  have ml1 := (K1.old bl nlh).trans ((K0.old bl nl (by simp [hne])).trans ml)
  have mh1 := (K1.old bh nhh).trans mh
  have me1 : blk (h.upd (nxt h) (.cells [.int .i64 (.ofNat a), .int .i64 (.ofNat b)])).bump (nxt h) = .cells [.int .i64 (.ofNat a), .int .i64 (.ofNat b)] := by rw [blk_bump, upd_same]
  have K01 : KeepsBut [bh] h0 (h.upd (nxt h) (.cells [.int .i64 (.ofNat a), .int .i64 (.ofNat b)])).bump := K0.new _
  rw [iter_succ, b1005_1]
  refine Tst (J7 g55 g56 g57 hi' e1 @st_agg @stB_all) ?_
  refine reg5_0 (a := a) (b := b) hll hle ha hb ml1 me1 ?_ ?_ (fun t1 kp u72 => ?_)
  ·exact Ssc g3
  ·exact Ssc0
  have u1 := kp 1 (by simp)
  have u3 := kp 3 (by simp)
  have u5 := kp 5 (by simp)
  have u9 := kp 9 (by simp)
  have u55 := kp 55 (by simp)
  have u56 := kp 56 (by simp)
  have u57 := kp 57 (by simp)
  simp -implicitDefEqProofs (disch := exact tD) only [↓sD, sB, ↓reduceIte, Nat.reduceEqDiff, reduceCtorEq, Nat.reduceLT, Nat.reduceMul, Nat.reduceAdd, g1, g3, g5, g55, g56, g57] at u1 u3 u5 u9 u55 u56 u57
  clear kp
  rw [decide_eq_false (by omega : ¬ lv.getD a 0 + 1 < lv.getD b 0)] at u72
  refine Sst u72 ?_
  refine reg5_1 (g := g) (a := a) (b := b) hll hbl hle ha hb mb1 ml1 mh1 me1 u1 u3 u5 u9 (fun t2 kp2 => ?_)
  have w1 := kp2 1 (by simp)
  have w3 := kp2 3 (by simp)
  have w5 := kp2 5 (by simp)
  have w55 := kp2 55 (by simp)
  have w56 := kp2 56 (by simp)
  have w57 := kp2 57 (by simp)
  simp -implicitDefEqProofs (disch := exact tD) only [↓sD, sB, ↓reduceIte, Nat.reduceEqDiff, reduceCtorEq, Nat.reduceLT, Nat.reduceMul, Nat.reduceAdd, u1, u3, u5, u55, u56, u57] at w1 w3 w5 w55 w56 w57
  clear kp2
  refine Sst w57 ?_
  refine ih (i + 1) M _ _ (bs.set b (bs.getD b false || (decide (lv.getD b 0 = lv.getD a 0 + 1) && !decide (b < g.init.length)))) (drop_next hr) tO tO (fun e' h' => he e' (by simp [h'])) (by rw [List.length_set]; exact hbl) (fun j hj => ?_) (K01.put (.inr (by simp)) _) (by rw [blk_bump, upd_same]) ?_ ?_ ?_ ?_ ?_ ?_ hk
  ·have gj : ∀ x, j ≠ b → (bs.set b x).getD j false = bs.getD j false := fun x hne => by
    rw [List.getD_eq_getElem?_getD, List.getElem?_set_ne (fun e => hne e.symm), ← List.getD_eq_getElem?_getD]
   have gb : ∀ x, (bs.set b x).getD b false = x := fun x => by
    rw [List.getD_eq_getElem?_getD, List.getElem?_set_self tO]; rfl
   rcases hw j hj with h1 | ⟨a', h1, h2, h3⟩
   ·left
    by_cases e : j = b
    ·subst e; rw [gb, h1]; rfl
    ·rw [gj _ e]; exact h1
   ·rcases List.mem_cons.1 h1 with h4 | h4
    ·obtain ⟨q1, q2⟩ := Prod.mk.inj h4
     have ea : a' = a := Int.ofNat.inj q1
     have eb : j = b := Int.ofNat.inj q2
     subst ea eb
     left
     rw [gb, decide_eq_true h2, decide_eq_false (by omega : ¬ j < g.init.length)]
     simp
    ·by_cases e : j = b
     ·subst e
      by_cases hx : (bs.set j (bs.getD j false || (decide (lv.getD j 0 = lv.getD a 0 + 1) && !decide (j < g.init.length)))).getD j false = true
      ·exact .inl hx
      ·exact .inr ⟨a', h4, h2, h3⟩
     ·exact .inr ⟨a', h4, h2, h3⟩
  ·exact Ssc w1
  ·exact Ssc w3
  ·exact Ssc w5
  ·exact Ssc w55
  ·exact Ssc w56
  ·exact Ssc0
end
end Go.AJ
/- SearchLevels answers true. -/
namespace Go.AJ
open Go
set_option maxRecDepth 100000
def SaneOK (E : Env) : Prop := ∀ {L n : Nat} {h : Hp} {kc : KC}, call E L (n + 1) (.fn 6) [] none h kc = kc (.ret (.bool true)) none h
section
variable {E : Env} {L n N : Nat} {h : Hp} {kc : KC} {t : T V} {d : Dc} {k : KE} {fi : FI} {c : KV} {C : CallF}
theorem rep_bls (n : Nat) : rep n [.bool false] = bls (List.replicate n false) := by
 rw [rep_one_w]; simp [bls]
theorem law5 (hE : Fns E) (hF : Hns E) (hS : SaneOK E) (hL9 : L ≤ 9000000000000000000) (hL2 : 31000 ≤ L) {D : Nat} {g : Gr} (hn : g.states.length + 2 * D + 260 ≤ n) (hd : ∀ s ∈ g.states, depL s.l ≤ D) (hsc : g.states.length ≤ g.sc) (hb : g.bulk ≤ L) (hb2 : g.bulk ≤ 20000000) (hk : ∀ h1, Keeps h h1 → kc (.ret (.bool true)) none h1 = true) :
  call E (L + 8) (n + 8) (.fn 5) [.agg g.cells] none h kc = true := by
 have l3 := g.cells_length
 have hbb : g.states.length + bulkS g.states + g.init.length + 2 * g.edges.length ≤ L := hb
 have K0 : Keeps h (h.upd (nxt h) (.cells g.cells)).bump := kO
 have hS' : ∀ {L n : Nat} {h : Hp} {kc : KC}, call E L (n + 1) (.fn 6) [] none h kc = kc (.ret (.bool true)) none h := hS
 rw [call_fn hF.f1005, c1005, r1005, p1005_0, p1005_1, p1005_2, p1005_3, p1005_4, p1005_5, p1005_6, p1005_7, p1005_8]
 refine Sst (J3 @hS' @ldN_all l3) ?_
 refine call1007 hE hF (L := L + 5) (n := n) tO tO tO tO (fun b h1 K1 => ?_)
 have nb1 := K1.nx
 simp only [nB] at nb1
 have m1 := K1.old (nxt h) tN
 simp -implicitDefEqProofs (disch := exact tD) only [↓sD, sB, ↓reduceIte, Nat.reduceEqDiff, reduceCtorEq, Nat.reduceLT, Nat.reduceMul, Nat.reduceAdd] at m1
 have K01 := K0.trans K1
 cases b
 ·refine Sst0 ?_
  exact hk _ K01
 refine Sst (J3 m1 @ldN_all l3) ?_
 refine call1024 hF (L := L + 5) (n := n + 4) (D := D) tO tO hd tO hsc (fun h2 K2 => ?_)
 have nb2 := K2.nx
 have m2 := (K2.old (nxt h) tO).trans m1
 have K02 := K01.trans K2
 rw [Gr.ref_eq]
 cases hok : g.ok
 ·refine Sst0 ?_
  exact hk _ K02
 refine Sst (J3 m2 @ldN_all l3) ?_
 refine call29 hE (L := L) (n := n) tO tO hb hb2 (fun e => by rw [hok] at e; cases e) (fun _ h3 bl K3 ml nl1 nl2 => ?_)
 have nb3 := K3.nx
 have m3 := (K3.old (nxt h) tO).trans m2
 have K03 := K02.trans K3
 obtain ⟨c1, c2, c3, c4, c5, c6⟩ := Gr.ok_parts hok
 have law := Gr.lv_law hok
 have hll := g.lv_length
 have hle : ∀ j, g.lv.getD j 0 ≤ 20000 := fun j => Nat.le_trans (law.le j) c1
 have m3' := m3
 simp only [Gr.cells] at m3'
 have em : ∀ (h : Hp) (c : KV), oMkslice (.int .i64 (.ofNat g.states.length)) (.int .i64 (.ofNat g.states.length)) [.bool false] 1 h c = c (.sl (nxt h) 0 g.states.length g.states.length 0) (h.upd (nxt h) (.cells (bls (List.replicate g.states.length false)))).bump := fun h c => by rw [mks_nat tO, rep_bls]
 refine Sst (J4 m3' @beqI_self em @exec_loop) ?_
 generalize hH : (h3.upd (nxt h3) (.cells (bls (List.replicate g.states.length false)))).bump = H
 have K3H : Keeps h3 H := by rw [← hH]; exact (Keeps.refl h3).new _
 have mhH : blk H (nxt h3) = .cells (bls (List.replicate g.states.length false)) := by rw [← hH, blk_bump, upd_same]
 have nhH : (nxt h3).num < (nxt H).num := by rw [← hH]; ((try simp only [nB]); omega)
 have nbH : (nxt h).num < (nxt H).num := by have := K3H.nx; omega
 have nlH : bl.num < (nxt H).num := by have := K3H.nx; omega
 have mlH := (K3H.old bl nl2).trans ml
 have mbH := (K3H.old (nxt h) tO).trans m3
 have hne : bl ≠ nxt h3 := fun e => by rw [e] at nl2; omega
 have hne1 : nxt h ≠ nxt h3 := fun e => by have := congrArg K.num e; omega
 have K0H := K03.trans K3H
 refine loop1005_0 (bl := bl) (bh := nxt h3) (g := g) (lv := g.lv) (nn := g.states.length) hll c3 c1 law.init (h0 := H) nlH nhH hne mlH g.init 0 _ _ H (List.replicate g.states.length false) rfl tO tO c5 (by simp) (fun j hj => by omega) (.refl _ H) mhH ?_ ?_ ?_ ?_ ?_ (fun t1 h4 bs1 a1 a2 a3 a4 kp => ?_)
 ·exact Ssc0
 ·exact Ssc0
 ·exact Ssc0
 ·exact Ssc0
 ·exact Ssc0
 have q1 := kp 1 (by simp)
 have q2 := kp 2 (by simp)
 have q3 := kp 3 (by simp)
 have q5 := kp 5 (by simp)
 simp -implicitDefEqProofs (disch := exact tD) only [↓sD, sB, ↓reduceIte, Nat.reduceEqDiff, reduceCtorEq, Nat.reduceLT, Nat.reduceMul, Nat.reduceAdd] at q1 q2 q3 q5
 clear kp
 have n4 := a3.nx
 have mb4 := (a3.old (nxt h) nbH (by simp [hne1])).trans mbH
 have mb4' := mb4
 simp only [Gr.cells] at mb4'
 have ml4 := (a3.old bl nlH (by simp [hne])).trans mlH
 refine Sst (J3 q1 mb4' @exec_loop) ?_
 refine loop1005_1 (b1 := nxt h) (bl := bl) (bh := nxt h3) (g := g) (lv := g.lv) (nn := g.states.length) hll hle c2 (h0 := h4) (a3.lt nbH) (a3.lt nlH) (a3.lt nhH) hne hne1 mb4 ml4 g.edges 0 _ _ h4 bs1 rfl tO tO law.edge a1 (fun j hj => ?_) (.refl _ h4) a4 ?_ ?_ ?_ ?_ ?_ ?_ (fun t2 h5 bs2 z1 z2 z3 z4 z5 z6 => ?_)
 ·by_cases hj2 : j < g.init.length
  ·exact .inl (a2 j hj2)
  ·obtain ⟨a, _, x2, x3⟩ := law.has j tO hj
   exact .inr ⟨a, x2, x3, by omega⟩
 ·exact Ssc q1
 ·exact Ssc q3
 ·exact Ssc q5
 ·exact Ssc0
 ·exact Ssc0
 ·exact Ssc0
 have ml5 := (z3.old bl (a3.lt nlH) (by simp [hne])).trans ml4
 have K5 : Keeps h h5 := by
  have b1 := (a3.trans z3)
  refine ⟨by have := K0H.nx; have := b1.nx; omega, fun b hb => ?_⟩
  rw [b1.old b (by have := K0H.nx; omega) (by simp only [List.mem_cons, List.not_mem_nil, or_false]; exact fun e => by rw [e] at hb; omega), K0H.old b hb]
 refine Sst (J2 z5 z6) ?_
 have hsl : (.sl bl 0 g.states.length g.states.length 0 : V) = .sl bl 0 g.lv.length g.lv.length 0 := by rw [hll]
 rw [hsl]
 refine call1029 hE hF (L := L + 7) (n := n + 4) ml5 tO tO (fun i hi => law.mono i (i + 1) tO tO) ?_
 refine Sst z6 ?_
 have hsh : (.sl (nxt h3) 0 g.states.length g.states.length 0 : V) = .sl (nxt h3) 0 bs2.length bs2.length 0 := by rw [z1]
 rw [hsh]
 refine call1030 hF (L := L + 7) (n := n + 5) z4 tO tO (fun i hi => z2 i tO) ?_
 refine Sst0 ?_
 exact hk _ K5
end
end Go.AJ
