/- The walk: graphs and levels. -/
import Derived.Test.YtgdbpnpolelfoaaGreatDoorWc
set_option linter.all false
/- Graphs, as they came in; edges compared; the map of the keys. -/
namespace Go.AJ
open Go
structure St where
 b : Bool
 c : Nat
 l : List Va
def St.cell (s : St) : V := slR s.b s.c (rowsV s.l) s.l.length
def rowsS (l : List St) : List V := l.map St.cell
def rowsE : List (Int × Int) → List V
 | [] => []
 | e :: l => .int .i64 e.1 :: .int .i64 e.2 :: rowsE l
structure Gr where
 sb : Bool
 sc : Nat
 states : List St
 ib : Bool
 ic : Nat
 init : List Int
 eb : Bool
 ec : Nat
 edges : List (Int × Int)
def Gr.cells (g : Gr) : List V := [slR g.sb g.sc (rowsS g.states) g.states.length, slR g.ib g.ic (intsZ g.init) g.init.length, slR g.eb g.ec (rowsE g.edges) g.edges.length]
def bulkS : List St → Nat
 | [] => 0
 | s :: l => bulkL s.l + bulkS l
def Gr.bulk (g : Gr) : Nat := g.states.length + bulkS g.states + g.init.length + 2 * g.edges.length
theorem rowsS_get {l : List St} {i : Nat} {s : St} (h : l[i]? = some s) : (rowsS l)[i]? = some s.cell := by simp [rowsS, h]
theorem rowsE_length : ∀ l : List (Int × Int), (rowsE l).length = l.length * 2
 | [] => rfl
 | e :: l => by simp only [rowsE, List.length_cons, rowsE_length l]; omega
theorem rowsE_get : ∀ {l : List (Int × Int)} {i : Nat} {e : Int × Int}, l[i]? = some e → ((rowsE l).drop (i * 2)).take 2 = [.int .i64 e.1, .int .i64 e.2]
 | [], i, e, h => by simp at h
 | x :: l, 0, e, h => by simp at h; subst h; rfl
 | x :: l, i + 1, e, h => by
  rw [rowsE, show (i + 1) * 2 = i * 2 + 1 + 1 by omega, List.drop_succ_cons, List.drop_succ_cons]
  exact rowsE_get (by simpa using h)
theorem bulkS_mem : ∀ {l : List St} {s : St}, s ∈ l → bulkL s.l ≤ bulkS l
 | x :: l, s, h => by
  rw [bulkS]
  rcases List.mem_cons.1 h with rfl | h
  ·omega
  ·have := bulkS_mem h; omega
def cmpE (a b : Int × Int) : Int := orI (cmpI a.1 b.1) (cmpI a.2 b.2)
def stOK (n0 : Nat) : List (List Nat) → List St → Bool
 | _, [] => true
 | ks, s :: r => decide (s.l.length = n0) && s.l.all okV && !ks.contains (keyN s.l) && stOK n0 (ks ++ [keyN s.l]) r
def initOK : Nat → List Int → Bool
 | _, [] => true
 | i, x :: r => beqI x (.ofNat i) && initOK (i + 1) r
def prevOK (prev : Option (Int × Int)) (e : Int × Int) : Bool := match prev with
 | none => true
 | some p => ltI (cmpE p e) (.ofNat 0)
def edge1 (n : Nat) (prev : Option (Int × Int)) (found : Nat) (e : Int × Int) : Bool :=
 !ltI e.1 (.ofNat 0) && ltI e.1 (.ofNat n) && !ltI e.2 (.ofNat 0) && ltI e.2 (.ofNat n) && prevOK prev e && ltI e.1 (.ofNat found) && !ltI (.ofNat found) e.2
def edOK (n : Nat) : Option (Int × Int) → Nat → List (Int × Int) → Option Nat
 | _, found, [] => some found
 | prev, found, e :: r => if edge1 n prev found e = true then edOK n (some e) (if beqI e.2 (.ofNat found) = true then found + 1 else found) r else none
def Gr.ok (g : Gr) : Bool :=
 !decide (20000 < g.states.length) && !decide (100000 < g.edges.length) && !decide (g.states.length < g.init.length) &&
  stOK (g.states.headD ⟨true, 0, []⟩).l.length [] g.states && initOK 0 g.init && (edOK g.states.length none g.init.length g.edges == some g.states.length)
inductive Ks : List ME → List (List Nat) → Prop
 | nil : Ks [] []
 | cons (k : List Nat) (b : Nat) (es : List ME) (ks : List (List Nat)) (h : Ks es ks) : Ks (.mk (.str k) (.bool true) b :: es) (k :: ks)
theorem mapGet_ks {es : List ME} {ks : List (List Nat)} (H : Ks es ks) (k : List Nat) (f : V → Bool → Bool) : mapGet .str (.str k) (.bool false) es f = f (.bool (ks.contains k)) (ks.contains k) := by
 induction H with
 | nil => rfl
 | cons k' b es ks h ih =>
  simp only [mapGet, eqCell]
  cases e : beqL k k'
  ·simp only
   rw [ih]
   have : (k' :: ks).contains k = ks.contains k := by
    have h2 : (k == k') = false := by
     rw [beq_eq_false_iff_ne]
     intro e'
     rw [beqL_iff.2 e'] at e
     cases e
    rw [List.contains_cons, h2, Bool.false_or]
   rw [this]
  ·obtain rfl := beqL_iff.1 e
   simp
theorem mapSet_ks {es : List ME} {ks : List (List Nat)} (H : Ks es ks) {k : List Nat} (hk : ks.contains k = false) (clock : Nat) (f : List ME → Nat → Bool) : mapSet .str (.str k) (.bool true) clock es f = f (es ++ [.mk (.str k) (.bool true) clock]) (clock + 1) := by
 induction H generalizing f with
 | nil => rfl
 | cons k' b es ks h ih =>
  rw [List.contains_cons, Bool.or_eq_false_iff] at hk
  simp only [mapSet, eqCell]
  cases e : beqL k k'
  ·simp only
   rw [ih hk.2]
   rfl
  ·obtain rfl := beqL_iff.1 e
   simp at hk
theorem Ks.snoc {es : List ME} {ks : List (List Nat)} (H : Ks es ks) (k : List Nat) (b : Nat) : Ks (es ++ [.mk (.str k) (.bool true) b]) (ks ++ [k]) := by
 induction H with
 | nil => exact .cons _ _ _ _ .nil
 | cons k' b es ks h ih => exact .cons _ _ _ _ ih
section
variable {E : Env} {L n N : Nat} {h : Hp} {kc : KC} {t : T V} {d : Dc} {k : KE} {fi : FI} {c : KV} {C : CallF}
theorem get_map {b : K} {es : List ME} {clock : Nat} {ks : List (List Nat)} {k : List Nat} (hb : blk h b = .map es clock) (H : Ks es ks) : oMapget .str (.map b) (.str k) (.bool false) false h c = c (.bool (ks.contains k)) h := by
 simp only [oMapget, hb, mapGet_ks H]; rfl
theorem set_map {b : K} {es : List ME} {clock : Nat} {ks : List (List Nat)} {k : List Nat} {f : Hp → Bool} (hb : blk h b = .map es clock) (H : Ks es ks) (hk : ks.contains k = false) : oMapset .str (.map b) (.str k) (.bool true) h f = f (h.upd b (.map (es ++ [.mk (.str k) (.bool true) clock]) (clock + 1))) := by
 simp only [oMapset, hb, mapSet_ks H hk, putBlk_eq]
theorem call103 (hE : Fns E) {a b : Int × Int} (hk : ∀ h1, Keeps h h1 → kc (.ret (.int .i64 (cmpE a b))) none h1 = true) :
  call E (L + 3) (n + 3) (.fn 90) [.agg [.int .i64 a.1, .int .i64 a.2], .agg [.int .i64 b.1, .int .i64 b.2]] none h kc = true := by
 rw [call_fn hE.f103, c103, r103, p103_0, p103_1]
 simp -implicitDefEqProofs (disch := first | assumption | ((try simp only [dB]); first | done | omega)) only [↓sD, sB, ↓reduceIte, Nat.reduceEqDiff, reduceCtorEq, Nat.reduceAdd, call30 hE]
 rw [call67 hE (a := cmpI a.1 b.1) (b := cmpI a.2 b.2) (Ssc0)]
 refine Sst0 ?_
 refine hk _ ?_
 exact kO
end
end Go.AJ
/- search.isGraph: the states, the initial ones. -/
namespace Go.AJ
open Go
section
variable {E : Env} {L n N : Nat} {h : Hp} {kc : KC} {t : T V} {d : Dc} {k : KE} {fi : FI} {c : KV} {C : CallF}
theorem veq_cell {s : St} {m : Nat} : veq (m + 1) s.cell s.cell = true := veq_flat flat_slR
theorem len_cell {s : St} : oLen .sl s.cell h c = c (.int .i64 (.ofNat s.l.length)) h := len_slR
theorem loop61_0 (hE : Fns E) (hL9 : L ≤ 9223372036854775800) (hn : 181 ≤ n) {b1 bm : K} {g : Gr} {s0 : St} (h00 : g.states[0]? = some s0) (hbs : bulkS g.states ≤ L) (hbs2 : bulkS g.states ≤ 20000000) (hlen : g.states.length ≤ 20000) {h0 : Hp} (n1 : b1.num < (nxt h0).num) (nm : bm.num < (nxt h0).num) (n1m : b1.num ≠ bm.num) (mb1 : blk h0 b1 = .cells g.cells) :
  ∀ (r : List St) (ks : List (List Nat)) (i M : Nat) (t : T V) (h : Hp) (es : List ME) (clock : Nat), g.states.drop i = r → i + r.length = g.states.length → r.length + 1 ≤ M → blk h bm = .map es clock → Ks es ks → KeepsBut [bm] h0 h →
  T.get und (K.of 1) t = .ptr b1 0 → T.get und (K.of 4) t = .map bm → T.get und (K.of 33) t = slR g.sb g.sc (rowsS g.states) g.states.length → T.get und (K.of 34) t = .int .i64 (.ofNat g.states.length) → T.get und (K.of 35) t = .int .i64 (.ofNat i) →
  (stOK s0.l.length ks r = true → ∀ t1 h1, KeepsBut [bm] h0 h1 → Kp [1, 2, 3] t t1 → k (.exit 0) t1 d h1 = true) →
  (stOK s0.l.length ks r = false → ∀ t1 h1, KeepsBut [bm] h0 h1 → T.get und (K.of 2) t1 = .bool false → k .ret t1 d h1 = true) →
  iter (exec (call E (L + 8) (n + 5)) (L + 8) fi b61_0) M t d h k = true := by
 intro r
 induction r with
 | nil =>
  intro ks i M t h es clock hr hi hM hm H K0 g1 g4 g33 g34 g35 hk hf
  obtain ⟨M, rfl⟩ := pM M
  have hi' : (i < g.states.length) = False := eq_false (by simp at hi; omega)
  rw [iter_succ, b61_0]
  refine Tst (J3 g34 g35 hi') ?_
  exact hk rfl _ _ K0 (by simp -implicitDefEqProofs only [Kp, kpB, Nat.reduceEqDiff, ↓reduceIte])
 | cons s r ih =>
  intro ks i M t h es clock hr hi hM hm H K0 g1 g4 g33 g34 g35 hk hf
  obtain ⟨M, rfl⟩ := pM M
  simp only [List.length_cons] at hi hM
  have hi' : (i < g.states.length) = True := eT
  have hsm : s ∈ g.states := List.mem_of_getElem? (at_drop hr)
  have hsb := bulkS_mem hsm
  have e1 := fun c h => load1_rp (c := c) (h := h) (rowsS_get (at_drop hr))
  have e2 := fun c h => load1_rp (c := c) (h := h) (rowsS_get h00)
  have mb : blk h b1 = .cells g.cells := (K0.old b1 n1 (by simp only [List.mem_cons, List.not_mem_nil, or_false]; exact fun e => n1m (by rw [e]))).trans mb1
  simp only [Gr.cells] at mb
  have n1h := K0.lt n1
  have nmh := K0.lt nm
  simp only [stOK] at hk hf
  rw [iter_succ, b61_0]
  by_cases hl : s.l.length = s0.l.length
  ·refine Tst (J10 g1 g33 g34 g35 hi' e1 e2 @len_cell mb hl) ?_
   refine call99 hE (L := L + 5) (n := n) tO tO tO (fun h1 K1 => ?_)
   simp only [hl, decide_true, Bool.true_and] at hk hf
   cases hok : s.l.all okV
   ·refine Sst0 ?_
    exact hf (by rw [hok, Bool.false_and, Bool.false_and]) _ _ (K0.trans K1.but) (Ssc0)
   ·simp only [hok, Bool.true_and] at hk hf
    refine Sst0 ?_
    refine call102 hE hL9 (n := n + 4) tO hok tO tO (fun h2 K2 => ?_)
    have K3 := K1.trans K2
    have m2 := (K3.old bm nmh).trans hm
    simp -implicitDefEqProofs (disch := exact tD) only [↓sD, sB, ↓reduceIte, Nat.reduceEqDiff, g4, get_map m2 H]
    cases hc : ks.contains (keyN s.l)
    ·simp only [hc, Bool.not_false, Bool.true_and] at hk hf
     simp -implicitDefEqProofs (disch := exact tD) only [↓sD, sB, ↓reduceIte, Nat.reduceEqDiff, set_map m2 H hc, g35]
     have K4 : KeepsBut [bm] h0 (h2.upd bm (.map (es ++ [.mk (.str (keyN s.l)) (.bool true) clock]) (clock + 1))) := (K0.trans K3.but).put (.inr (by simp)) _
     refine ih (ks ++ [keyN s.l]) (i + 1) M _ _ _ _ (drop_next hr) tO tO upd_same (H.snoc _ _) K4 ?_ ?_ ?_ ?_ ?_ (fun hy t1 h1 K5 kp => hk hy t1 h1 K5 (Kp.trans (by simp -implicitDefEqProofs only [Kp, kpB, Nat.reduceEqDiff, ↓reduceIte]) kp)) hf
     ·exact Ssc g1
     ·exact Ssc g4
     ·exact Ssc g33
     ·exact Ssc g34
     ·exact Ssc0
    ·simp only [hc, Bool.not_true, Bool.false_and] at hk hf
     simp -implicitDefEqProofs (disch := exact tD) only [↓reduceIte]
     exact hf trivial _ _ (K0.trans K3.but) (Ssc0)
  ·simp only [hl, decide_false, Bool.false_and] at hf
   have hl' : (s.l.length = s0.l.length) = False := eq_false hl
   refine Tst (J10 g1 g33 g34 g35 hi' e1 e2 @len_cell mb hl') ?_
   exact hf trivial _ _ K0 (Ssc0)
theorem loop61_1 {g : Gr} (hlen : g.init.length ≤ 9223372036854775800) :
  ∀ (r : List Int) (i M : Nat) (t : T V), g.init.drop i = r → i + r.length = g.init.length → r.length + 1 ≤ M →
  T.get und (K.of 60) t = slR g.ib g.ic (intsZ g.init) g.init.length → T.get und (K.of 61) t = .int .i64 (.ofNat g.init.length) → T.get und (K.of 62) t = .int .i64 (.ofNat i) →
  (initOK i r = true → ∀ t1, Kp [1, 2, 3] t t1 → k (.exit 2) t1 d h = true) →
  (initOK i r = false → ∀ t1, T.get und (K.of 2) t1 = .bool false → k .ret t1 d h = true) →
  iter (exec C L fi b61_1) M t d h k = true := by
 intro r
 induction r with
 | nil =>
  intro i M t hr hi hM g33 g34 g35 hk hf
  obtain ⟨M, rfl⟩ := pM M
  have hi' : (i < g.init.length) = False := eq_false (by simp at hi; omega)
  rw [iter_succ, b61_1]
  refine Tst (J3 g34 g35 hi') ?_
  exact hk rfl _ (by simp -implicitDefEqProofs only [Kp, kpB, Nat.reduceEqDiff, ↓reduceIte])
 | cons x r ih =>
  intro i M t hr hi hM g33 g34 g35 hk hf
  obtain ⟨M, rfl⟩ := pM M
  simp only [List.length_cons] at hi hM
  have hi' : (i < g.init.length) = True := eT
  have hx : g.init.getD i 0 = x := by rw [List.getD_eq_getElem?_getD, at_drop hr]; rfl
  have e1 := fun c h => load1_rp (c := c) (h := h) (intsZ_get (l := g.init) (i := i) tO)
  simp only [hx] at e1
  simp only [initOK] at hk hf
  rw [iter_succ, b61_1]
  cases hc : beqI x (.ofNat i)
  ·simp only [hc, Bool.false_and] at hf
   refine Tst (J6 g33 g34 g35 hi' e1 hc) ?_
   exact hf trivial _ (Ssc0)
  ·simp only [hc, Bool.true_and] at hk hf
   refine Tst (J6 g33 g34 g35 hi' e1 hc) ?_
   refine ih (i + 1) M _ (drop_next hr) tO tO ?_ ?_ ?_ (fun hy t1 kp => hk hy t1 (Kp.trans (by simp -implicitDefEqProofs only [Kp, kpB, Nat.reduceEqDiff, ↓reduceIte]) kp)) hf
   ·exact Ssc g33
   ·exact Ssc g34
   ·exact Ssc0
end
end Go.AJ
/- search.isGraph: the edges. -/
namespace Go.AJ
open Go
set_option maxRecDepth 100000
section
variable {E : Env} {L n N : Nat} {h : Hp} {kc : KC} {t : T V} {d : Dc} {k : KE} {fi : FI} {c : KV} {C : CallF}
theorem veq_ints2 {a b : Int} {m : Nat} : veq (m + 2) (.agg [.int .i64 a, .int .i64 b]) (.agg [.int .i64 a, .int .i64 b]) = true := veq_agg (by simp [flat])
theorem loop61_2 (hE : Fns E) {b1 : K} {g : Gr} {nn : Nat} (_hnn : nn ≤ 20000) (hlen : g.edges.length ≤ 100000) {h0 : Hp} (n1 : b1.num < (nxt h0).num) (mb1 : blk h0 b1 = .cells g.cells) :
  ∀ (r : List (Int × Int)) (prev : Option (Int × Int)) (found i M : Nat) (t : T V) (h : Hp), g.edges.drop i = r → i + r.length = g.edges.length → r.length + 1 ≤ M → (∀ p, prev = some p → ∃ j, i = j + 1 ∧ g.edges[j]? = some p) → (prev = none → i = 0) → found ≤ 20000 + i → Keeps h0 h →
  T.get und (K.of 1) t = .ptr b1 0 → T.get und (K.of 3) t = .int .i64 (.ofNat nn) → T.get und (K.of 10) t = .int .i64 (.ofNat found) → T.get und (K.of 75) t = slR g.eb g.ec (rowsE g.edges) g.edges.length → T.get und (K.of 76) t = .int .i64 (.ofNat g.edges.length) → T.get und (K.of 77) t = .int .i64 (.ofNat i) →
  (∀ f, edOK nn prev found r = some f → ∀ t1 h1, Keeps h0 h1 → T.get und (K.of 3) t1 = .int .i64 (.ofNat nn) → T.get und (K.of 10) t1 = .int .i64 (.ofNat f) → k (.exit 4) t1 d h1 = true) →
  (edOK nn prev found r = none → ∀ t1 h1, Keeps h0 h1 → T.get und (K.of 2) t1 = .bool false → k .ret t1 d h1 = true) →
  iter (exec (call E (L + 3) (n + 3)) (L + 3) fi b61_2) M t d h k = true := by
 intro r
 induction r with
 | nil =>
  intro prev found i M t h hr hi hM hp hp0 hfo K0 g1 g3 g10 g75 g76 g77 hk hf
  obtain ⟨M, rfl⟩ := pM M
  have hi' : (i < g.edges.length) = False := eq_false (by simp at hi; omega)
  rw [iter_succ, b61_2]
  refine Tst (J3 g76 g77 hi') ?_
  exact hk found rfl _ _ K0 (Ssc g3) (Ssc g10)
 | cons e r ih =>
  intro prev found i M t h hr hi hM hp hp0 hfo K0 g1 g3 g10 g75 g76 g77 hk hf
  obtain ⟨M, rfl⟩ := pM M
  obtain ⟨a, b⟩ := e
  simp only [List.length_cons] at hi hM
  have hi' : (i < g.edges.length) = True := eT
  have e1 := fun c h => loadN_rp (c := c) (h := h) (rowsE_get (at_drop hr)) rfl
  have mb : blk h b1 = .cells g.cells := (K0.old b1 n1).trans mb1
  simp only [Gr.cells] at mb
  have n1h := Nat.lt_of_lt_of_le n1 K0.nx
  have K1 : Keeps h (h.upd (nxt h) (.cells [.int .i64 a, .int .i64 b])).bump := (Keeps.refl h).new _
  have n1' : b1.num ≠ (nxt h).num := by omega
  simp only [edOK] at hk hf
  -- one of the first four tests fails
  have bad : (!ltI a (.ofNat 0) && ltI a (.ofNat nn) && !ltI b (.ofNat 0) && ltI b (.ofNat nn)) = false → iter (exec (call E (L + 3) (n + 3)) (L + 3) fi b61_2) (M + 1) t d h k = true := by
   intro hb
   have hout : edge1 nn prev found (a, b) = false := by simp only [edge1, hb, Bool.false_and]
   simp only [hout, Bool.false_eq_true, if_false] at hf
   rw [iter_succ, b61_2]
   cases c1 : ltI a (.ofNat 0)
   ·cases c2 : ltI a (.ofNat nn)
    ·simp -implicitDefEqProofs (disch := exact tD) only [↓sD, sB, ↓reduceIte, Nat.reduceEqDiff, g3, g75, g76, g77, hi', decide_true, idx_slR, e1, st_agg, stB_all, c1, c2]
     exact hf trivial _ _ (K0.trans K1) (Ssc0)
    ·cases c3 : ltI b (.ofNat 0)
     ·cases c4 : ltI b (.ofNat nn)
      ·simp -implicitDefEqProofs (disch := exact tD) only [↓sD, sB, ↓reduceIte, Nat.reduceEqDiff, g3, g75, g76, g77, hi', decide_true, idx_slR, e1, st_agg, stB_all, c1, c2, c3, c4]
       exact hf trivial _ _ (K0.trans K1) (Ssc0)
      ·rw [c1, c2, c3, c4] at hb; cases hb
     ·simp -implicitDefEqProofs (disch := exact tD) only [↓sD, sB, ↓reduceIte, Nat.reduceEqDiff, g3, g75, g76, g77, hi', decide_true, idx_slR, e1, st_agg, stB_all, c1, c2, c3]
      exact hf trivial _ _ (K0.trans K1) (Ssc0)
   ·simp -implicitDefEqProofs (disch := exact tD) only [↓sD, sB, ↓reduceIte, Nat.reduceEqDiff, g75, g76, g77, hi', decide_true, idx_slR, e1, st_agg, stB_all, c1]
    exact hf trivial _ _ (K0.trans K1) (Ssc0)
  cases hb : (!ltI a (.ofNat 0) && ltI a (.ofNat nn) && !ltI b (.ofNat 0) && ltI b (.ofNat nn))
  ·exact bad hb
  simp only [Bool.and_eq_true, Bool.not_eq_true'] at hb
  obtain ⟨⟨⟨c1, c2⟩, c3⟩, c4⟩ := hb
  rw [iter_succ, b61_2]
  cases prev with
  | none =>
   have hi0 : (0 < i) = False := eq_false (by have := hp0 rfl; omega)
   generalize hprev : (none : Option (Int × Int)) = prev at hk hf
   have hpv : prevOK prev (a, b) = true := by subst hprev; rfl
   cases c5 : ltI a (.ofNat found)
   ·have hout : edge1 nn prev found (a, b) = false := by simp only [edge1, c5, Bool.and_false, Bool.false_and]
    simp only [hout, Bool.false_eq_true, if_false] at hf
    simp -implicitDefEqProofs (disch := exact tD) only [↓sD, sB, ↓reduceIte, Nat.reduceEqDiff, g3, g10, g75, g76, g77, hi', decide_true, decide_false, idx_slR, e1, st_agg, stB_all, c1, c2, c3, c4, hi0, c5]
    exact hf trivial _ _ (K0.trans K1) (Ssc0)
   ·cases c6 : ltI (.ofNat found) b
    ·have hin : edge1 nn prev found (a, b) = true := by simp only [edge1, c1, c2, c3, c4, c5, c6, hpv, Bool.not_false, Bool.and_self]
     simp only [hin, if_true] at hk hf
     cases c7 : beqI b (.ofNat found)
     ·simp only [c7, Bool.false_eq_true, if_false] at hk hf
      simp -implicitDefEqProofs (disch := exact tD) only [↓sD, sB, ↓reduceIte, Nat.reduceEqDiff, g3, g10, g75, g76, g77, hi', decide_true, decide_false, idx_slR, e1, st_agg, stB_all, c1, c2, c3, c4, hi0, c5, c6, c7]
      refine ih (some (a, b)) found (i + 1) M _ _ (drop_next hr) tO tO (fun p e => ⟨i, rfl, by cases e; exact at_drop hr⟩) (fun e => by cases e) tO (K0.trans K1) ?_ ?_ ?_ ?_ ?_ ?_ hk hf
      ·exact Ssc g1
      ·exact Ssc g3
      ·exact Ssc g10
      ·exact Ssc g75
      ·exact Ssc g76
      ·exact Ssc0
     ·simp only [c7, if_true] at hk hf
      have e5 : wrapI .i64 (.ofNat (found + 1)) = .ofNat (found + 1) := wrap_i64 tO
      simp -implicitDefEqProofs (disch := exact tD) only [↓sD, sB, ↓reduceIte, Nat.reduceEqDiff, g3, g10, g75, g76, g77, hi', decide_true, decide_false, idx_slR, e1, st_agg, stB_all, c1, c2, c3, c4, hi0, c5, c6, c7, e5]
      refine ih (some (a, b)) (found + 1) (i + 1) M _ _ (drop_next hr) tO tO (fun p e => ⟨i, rfl, by cases e; exact at_drop hr⟩) (fun e => by cases e) tO (K0.trans K1) ?_ ?_ ?_ ?_ ?_ ?_ hk hf
      ·exact Ssc g1
      ·exact Ssc g3
      ·exact Ssc0
      ·exact Ssc g75
      ·exact Ssc g76
      ·exact Ssc0
    ·have hout : edge1 nn prev found (a, b) = false := by simp only [edge1, c6, Bool.not_true, Bool.and_false]
     simp only [hout, Bool.false_eq_true, if_false] at hf
     simp -implicitDefEqProofs (disch := exact tD) only [↓sD, sB, ↓reduceIte, Nat.reduceEqDiff, g3, g10, g75, g76, g77, hi', decide_true, decide_false, idx_slR, e1, st_agg, stB_all, c1, c2, c3, c4, hi0, c5, c6]
     exact hf trivial _ _ (K0.trans K1) (Ssc0)
  | some p =>
   obtain ⟨j, rfl, hj⟩ := hp p rfl
   have hi0 : (0 < j + 1) = True := eT
   have e2 := fun c h => loadN_rp (c := c) (h := h) (rowsE_get hj) rfl
   have e3 : wrapI .i64 (Int.sub (.ofNat (j + 1)) (.ofNat 1)) = .ofNat j := wrap_dec (i := j + 1) tO
   generalize hi9 : j + 1 = i at *
   simp -implicitDefEqProofs (disch := first | assumption | ((try simp only [dB]); first | done | omega)) only [↓sD, sB, ↓reduceIte, Nat.reduceEqDiff, Nat.reduceAdd, g1, g3, g75, g76, g77, hi', decide_true, idx_slR, e1, e2, e3, st_agg, stB_all, c1, c2, c3, c4, mb, hi0]
   refine call103 hE (a := p) (b := (a, b)) (fun h2 K2 => ?_)
   have n2 := K2.nx
   simp only [nB] at n2
   have m2 := K2.old (nxt h) tN
   simp -implicitDefEqProofs (disch := exact tD) only [sB] at m2
   have K3 := K1.trans K2
   generalize hprev : some p = prev at hk hf
   cases c0 : ltI (cmpE p (a, b)) (.ofNat 0)
   ·have hout : edge1 nn prev found (a, b) = false := by subst hprev; simp only [edge1, prevOK, c0, Bool.and_false, Bool.false_and]
    simp only [hout, Bool.false_eq_true, if_false] at hf
    simp -implicitDefEqProofs (disch := exact tD) only [↓sD, sB, ↓reduceIte, Nat.reduceEqDiff, c0]
    exact hf trivial _ _ (K0.trans K3) (Ssc0)
   ·have hpv : prevOK prev (a, b) = true := by subst hprev; exact c0
    cases c5 : ltI a (.ofNat found)
    ·have hout : edge1 nn prev found (a, b) = false := by simp only [edge1, c5, Bool.and_false, Bool.false_and]
     simp only [hout, Bool.false_eq_true, if_false] at hf
     simp -implicitDefEqProofs (disch := exact tD) only [↓sD, sB, ↓reduceIte, Nat.reduceEqDiff, g10, c0, m2, c5]
     exact hf trivial _ _ (K0.trans K3) (Ssc0)
    ·cases c6 : ltI (.ofNat found) b
     ·have hin : edge1 nn prev found (a, b) = true := by simp only [edge1, c1, c2, c3, c4, c5, c6, hpv, Bool.not_false, Bool.and_self]
      simp only [hin, if_true] at hk hf
      cases c7 : beqI b (.ofNat found)
      ·simp only [c7, Bool.false_eq_true, if_false] at hk hf
       simp -implicitDefEqProofs (disch := exact tD) only [↓sD, sB, ↓reduceIte, Nat.reduceEqDiff, g10, g77, c0, m2, c5, c6, c7]
       refine ih (some (a, b)) found (i + 1) M _ _ (drop_next hr) tO tO (fun p e => ⟨i, rfl, by cases e; exact at_drop hr⟩) (fun e => by cases e) tO (K0.trans K3) ?_ ?_ ?_ ?_ ?_ ?_ hk hf
       ·exact Ssc g1
       ·exact Ssc g3
       ·exact Ssc g10
       ·exact Ssc g75
       ·exact Ssc g76
       ·exact Ssc0
      ·simp only [c7, if_true] at hk hf
       have e5 : wrapI .i64 (.ofNat (found + 1)) = .ofNat (found + 1) := wrap_i64 tO
       simp -implicitDefEqProofs (disch := exact tD) only [↓sD, sB, ↓reduceIte, Nat.reduceEqDiff, g10, g77, c0, m2, c5, c6, c7, e5]
       refine ih (some (a, b)) (found + 1) (i + 1) M _ _ (drop_next hr) tO tO (fun p e => ⟨i, rfl, by cases e; exact at_drop hr⟩) (fun e => by cases e) tO (K0.trans K3) ?_ ?_ ?_ ?_ ?_ ?_ hk hf
       ·exact Ssc g1
       ·exact Ssc g3
       ·exact Ssc0
       ·exact Ssc g75
       ·exact Ssc g76
       ·exact Ssc0
     ·have hout : edge1 nn prev found (a, b) = false := by simp only [edge1, c6, Bool.not_true, Bool.and_false]
      simp only [hout, Bool.false_eq_true, if_false] at hf
      simp -implicitDefEqProofs (disch := exact tD) only [↓sD, sB, ↓reduceIte, Nat.reduceEqDiff, g10, c0, m2, c5, c6]
      exact hf trivial _ _ (K0.trans K3) (Ssc0)
end
end Go.AJ
/- search.isGraph, whole. -/
namespace Go.AJ
open Go
set_option maxRecDepth 100000
section
variable {E : Env} {L n N : Nat} {h : Hp} {kc : KC} {t : T V} {d : Dc} {k : KE} {fi : FI} {c : KV} {C : CallF}
theorem Gr.cells_length (g : Gr) : g.cells.length = 3 := rfl
theorem call61 (hE : Fns E) (hL9 : L ≤ 9223372036854775800) (hn : 181 ≤ n) {g : Gr} (hb : g.bulk ≤ L) (hb2 : g.bulk ≤ 20000000) (hk : ∀ h1, Keeps h h1 → kc (.ret (.bool g.ok)) none h1 = true) :
  call E (L + 8) (n + 6) (.fn 46) [.agg g.cells] none h kc = true := by
 have hbb : g.states.length + bulkS g.states + g.init.length + 2 * g.edges.length ≤ L := hb
 have hbb2 : g.states.length + bulkS g.states + g.init.length + 2 * g.edges.length ≤ 20000000 := hb2
 have K1 : Keeps h ((h.upd (nxt h) (.cells g.cells)).upd (nxt h).succ (.map [] 0)).bump.bump := kO
 have K0 : Keeps h (h.upd (nxt h) (.cells g.cells)).bump := kO
 rw [call_fn hE.f61, c61, r61, p61_0, p61_1, p61_2, p61_3]
 by_cases c1 : 20000 < g.states.length
 ·have e : g.ok = false := by simp only [Gr.ok, c1, decide_true, Bool.not_true, Bool.false_and]
  rw [e] at hk
  simp -implicitDefEqProofs (disch := exact tD) only [↓sD, sB, ↓reduceIte, Nat.reduceEqDiff, Gr.cells, c1, decide_true]
  exact hk _ K0
 by_cases c2 : 100000 < g.edges.length
 ·have e : g.ok = false := by simp only [Gr.ok, c2, decide_true, Bool.not_true, Bool.and_false, Bool.false_and]
  rw [e] at hk
  simp -implicitDefEqProofs (disch := exact tD) only [↓sD, sB, ↓reduceIte, Nat.reduceEqDiff, Gr.cells, c1, c2, decide_true, decide_false]
  exact hk _ K0
 by_cases c3 : g.states.length < g.init.length
 ·have e : g.ok = false := by simp only [Gr.ok, c3, decide_true, Bool.not_true, Bool.and_false, Bool.false_and]
  rw [e] at hk
  simp -implicitDefEqProofs (disch := exact tD) only [↓sD, sB, ↓reduceIte, Nat.reduceEqDiff, Gr.cells, c1, c2, c3, decide_true, decide_false]
  exact hk _ K0
 have eok : g.ok = (stOK (g.states.headD ⟨true, 0, []⟩).l.length [] g.states && initOK 0 g.init && (edOK g.states.length none g.init.length g.edges == some g.states.length)) := by
  simp only [Gr.ok, c1, c2, c3, decide_false, Bool.not_false, Bool.true_and]
 rw [eok] at hk
 -- behind the loop over the states
 have rest : ∀ (h1 : Hp) (tt : T V), Keeps h h1 → stOK (g.states.headD ⟨true, 0, []⟩).l.length [] g.states = true → blk h1 (nxt h) = .cells g.cells → (nxt h).num < (nxt h1).num → T.get und (K.of 1) tt = .ptr (nxt h) 0 → T.get und (K.of 2) tt = .bool false → T.get und (K.of 3) tt = .int .i64 (.ofNat g.states.length) →
   exec (call E (L + 8) (n + 5)) (L + 8) (.mk 61 none) p61_5 tt (.mk [] none) h1 (iterK (execK (call E (L + 8) (n + 5)) (L + 8) (.mk 61 none) (.seq p61_6 (.seq p61_7 (.seq p61_8 .ret))) (fnEnd (call E (L + 8) (n + 5)) (L + 8) [.t (K.of 2)] kc)) (fnEnd (call E (L + 8) (n + 5)) (L + 8) [.t (K.of 2)] kc)) = true := by
  intro h1 tt K2 hst mb nb g1 g2 g3
  rw [hst, Bool.true_and] at hk
  have mb' := mb
  simp only [Gr.cells] at mb'
  rw [p61_5, p61_6, p61_7, p61_8]
  refine Sst (J3 g1 mb' @exec_loop) ?_
  refine loop61_1 (g := g) tO g.init 0 _ _ rfl tO tO ?_ ?_ ?_ (fun hi t1 kp => ?_) (fun hf t1 q2 => ?_)
  ·exact Ssc0
  ·exact Ssc0
  ·exact Ssc0
  ·rw [hi, Bool.true_and] at hk
   have q1 := kp 1 (by simp)
   have q2 := kp 2 (by simp)
   have q3 := kp 3 (by simp)
   simp -implicitDefEqProofs (disch := exact tD) only [sB, ↓reduceIte, Nat.reduceEqDiff, g1, g2, g3] at q1 q2 q3
   refine Sst (J3 q1 mb' @exec_loop) ?_
   refine loop61_2 hE (L := L + 5) (n := n + 2) (g := g) (nn := g.states.length) tO tO (h0 := h1) nb mb g.edges none g.init.length 0 _ _ h1 rfl tO tO (fun p e => by cases e) (fun _ => rfl) tO (.refl h1) ?_ ?_ ?_ ?_ ?_ ?_ (fun f hf t2 h2 K3 u3 u10 => ?_) (fun hf t2 h2 K3 u2 => ?_)
   ·exact Ssc q1
   ·exact Ssc q3
   ·exact Ssc0
   ·exact Ssc0
   ·exact Ssc0
   ·exact Ssc0
   ·rw [hf] at hk
    have e9 : (some f == some g.states.length) = decide (f = g.states.length) := by
     by_cases e : f = g.states.length
     ·subst e; simp
     ·simp [e]
    rw [e9] at hk
    refine Sst (J2 u3 u10) ?_
    exact hk h2 (K2.trans K3)
   ·rw [hf] at hk
    have e9 : ((none : Option Nat) == some g.states.length) = false := rfl
    rw [e9] at hk
    refine Sst u2 ?_
    exact hk h2 (K2.trans K3)
  ·rw [hf, Bool.false_and] at hk
   refine Sst q2 ?_
   exact hk h1 K2
 by_cases h0 : g.states.length = 0
 ·have hs : g.states = [] := List.length_eq_zero_iff.1 h0
  have hz : (0 < g.states.length) = False := eF
  simp -implicitDefEqProofs (disch := exact tD) only [↓sD, sB, ↓reduceIte, Nat.reduceEqDiff, Gr.cells, c1, c2, c3, decide_false]
  rw [p61_4]
  simp -implicitDefEqProofs (disch := exact tD) only [↓sD, sB, ↓reduceIte, Nat.reduceEqDiff, exec_loop, iter_succ, b61_0, hz, decide_false]
  refine rest _ _ K1 (by rw [hs]; rfl) ?_ tN ?_ ?_ ?_
  ·simp -implicitDefEqProofs (disch := exact tD) only [sB, Gr.cells]
  ·exact Ssc0
  ·exact Ssc0
  ·exact Ssc0
 ·obtain ⟨s0, sr, hs⟩ : ∃ s0 sr, g.states = s0 :: sr := by
   cases hs : g.states with
   | nil => rw [hs] at h0; exact absurd rfl h0
   | cons s0 sr => exact ⟨s0, sr, rfl⟩
  have h00 : g.states[0]? = some s0 := by rw [hs]; rfl
  have hh : g.states.headD ⟨true, 0, []⟩ = s0 := by rw [hs]; rfl
  rw [hh] at hk rest
  simp -implicitDefEqProofs (disch := exact tD) only [↓sD, sB, ↓reduceIte, Nat.reduceEqDiff, Gr.cells, c1, c2, c3, decide_false]
  rw [p61_4]
  refine Sst @exec_loop ?_
  refine loop61_0 hE hL9 hn (b1 := nxt h) (bm := (nxt h).succ) (g := g) h00 tO tO tO (h0 := ((h.upd (nxt h) (.cells g.cells)).upd (nxt h).succ (.map [] 0)).bump.bump) tN tN tN (Ssc0) g.states [] 0 _ _ _ [] 0 rfl tO tO (Ssc0) .nil (.refl _ _) ?_ ?_ ?_ ?_ ?_ (fun hy t1 h1 K2 kp => ?_) (fun hf t1 h1 K2 q2 => ?_)
  ·exact Ssc0
  ·exact Ssc0
  ·exact Ssc0
  ·exact Ssc0
  ·exact Ssc0
  ·have q1 := kp 1 (by simp)
   have q2 := kp 2 (by simp)
   have q3 := kp 3 (by simp)
   simp -implicitDefEqProofs (disch := exact tD) only [sB, ↓reduceIte, Nat.reduceEqDiff] at q1 q2 q3
   have n2 := K2.nx
   simp only [nB] at n2
   have mb := K2.old (nxt h) tN (by simp only [List.mem_cons, List.not_mem_nil, or_false]; exact K.self_ne_succ _ |>.mp)
   simp -implicitDefEqProofs (disch := exact tD) only [sB] at mb
   have K3 : Keeps h h1 := ⟨by ((try simp only [nB]); omega), fun c hc => by rw [K2.old c tN (by simp only [List.mem_cons, List.not_mem_nil, or_false]; exact fun e => by subst e; rw [K.num_succ] at hc; omega), K1.old c hc]⟩
   refine Sst0 ?_
   exact rest h1 t1 K3 hy mb tO q1 q2 q3
  ·rw [hf, Bool.false_and, Bool.false_and] at hk
   have n2 := K2.nx
   simp only [nB] at n2
   have K3 : Keeps h h1 := ⟨by ((try simp only [nB]); omega), fun c hc => by rw [K2.old c tN (by simp only [List.mem_cons, List.not_mem_nil, or_false]; exact fun e => by subst e; rw [K.num_succ] at hc; omega), K1.old c hc]⟩
   refine Sst q2 ?_
   exact hk h1 K3
end
end Go.AJ
/- search.levels, search.Levels. -/
namespace Go.AJ
open Go
set_option maxRecDepth 100000
def lvGo : List Nat → Nat → List (Int × Int) → List Nat
 | lv, _, [] => lv
 | lv, found, e :: r => if beqI e.2 (.ofNat found) = true then lvGo (lv.set found (lv.getD e.1.toNat 0 + 1)) (found + 1) r else lvGo lv found r
def Gr.lv (g : Gr) : List Nat := lvGo (List.replicate g.states.length 0) g.init.length g.edges
theorem lvGo_length : ∀ (r : List (Int × Int)) (lv : List Nat) (found : Nat), (lvGo lv found r).length = lv.length
 | [], lv, found => rfl
 | e :: r, lv, found => by
  rw [lvGo]
  split
  ·rw [lvGo_length r, List.length_set]
  ·exact lvGo_length r lv found
theorem Gr.lv_length (g : Gr) : g.lv.length = g.states.length := by rw [Gr.lv, lvGo_length, List.length_replicate]
theorem edge1_nat {n found : Nat} {prev : Option (Int × Int)} {e : Int × Int} (h : edge1 n prev found e = true) : ∃ a b : Nat, e = (.ofNat a, .ofNat b) ∧ a < n ∧ b < n ∧ a < found ∧ b ≤ found ∧ prevOK prev e = true := by
 simp only [edge1, Bool.and_eq_true, Bool.not_eq_true', ltI_eq, decide_eq_true_eq, decide_eq_false_iff_not, Int.ofNat_eq_natCast] at h
 obtain ⟨⟨⟨⟨⟨⟨h1, h2⟩, h3⟩, h4⟩, h5⟩, h6⟩, h7⟩ := h
 obtain ⟨a, b⟩ := e
 simp only at *
 obtain ⟨a, rfl⟩ := Int.eq_ofNat_of_zero_le (show 0 ≤ a by omega)
 obtain ⟨b, rfl⟩ := Int.eq_ofNat_of_zero_le (show 0 ≤ b by omega)
 exact ⟨a, b, rfl, by omega, by omega, by omega, by omega, h5⟩
section
variable {E : Env} {L n N : Nat} {h : Hp} {kc : KC} {t : T V} {d : Dc} {k : KE} {fi : FI} {c : KV} {C : CallF}
theorem loop62 {bo : K} {g : Gr} {nn : Nat} (hnn : nn ≤ 20000) (hlen : g.edges.length ≤ 100000) {h0 : Hp} (no : bo.num < (nxt h0).num) :
  ∀ (r : List (Int × Int)) (prev : Option (Int × Int)) (f found i M : Nat) (t : T V) (h : Hp) (lv : List Nat), g.edges.drop i = r → i + r.length = g.edges.length → r.length + 1 ≤ M → edOK nn prev found r = some f → found ≤ nn → lv.length = nn → (∀ j, lv.getD j 0 ≤ found) → KeepsBut [bo] h0 h → blk h bo = .cells (ints lv) →
  T.get und (K.of 3) t = .sl bo 0 nn nn 0 → T.get und (K.of 4) t = .int .i64 (.ofNat found) → T.get und (K.of 15) t = slR g.eb g.ec (rowsE g.edges) g.edges.length → T.get und (K.of 16) t = .int .i64 (.ofNat g.edges.length) → T.get und (K.of 17) t = .int .i64 (.ofNat i) →
  (∀ t1 h1, KeepsBut [bo] h0 h1 → blk h1 bo = .cells (ints (lvGo lv found r)) → T.get und (K.of 3) t1 = .sl bo 0 nn nn 0 → k (.exit 0) t1 d h1 = true) →
  iter (exec C L fi b62_0) M t d h k = true := by
 intro r
 induction r with
 | nil =>
  intro prev f found i M t h lv hr hi hM hok hfn hll hle K0 mo g3 g4 g15 g16 g17 hk
  obtain ⟨M, rfl⟩ := pM M
  have hi' : (i < g.edges.length) = False := eq_false (by simp at hi; omega)
  rw [iter_succ, b62_0]
  refine Tst (J3 g16 g17 hi') ?_
  exact hk _ _ K0 mo (Ssc g3)
 | cons e r ih =>
  intro prev f found i M t h lv hr hi hM hok hfn hll hle K0 mo g3 g4 g15 g16 g17 hk
  obtain ⟨M, rfl⟩ := pM M
  simp only [List.length_cons] at hi hM
  have hi' : (i < g.edges.length) = True := eT
  have e1 := fun c h => loadN_rp (c := c) (h := h) (rowsE_get (at_drop hr)) rfl
  rw [edOK] at hok
  cases hed : edge1 nn prev found e
  ·rw [hed, if_neg (by simp)] at hok; cases hok
  rw [hed, if_pos rfl] at hok
  obtain ⟨a, b, rfl, ha, hb, haf, hbf, _⟩ := edge1_nat hed
  simp only at e1 hok
  have noh := K0.lt no
  have hne : bo.num ≠ (nxt h).num := by omega
  have K1 : KeepsBut [bo] h0 (h.upd (nxt h) (.cells [.int .i64 (.ofNat a), .int .i64 (.ofNat b)])).bump := K0.new _
  rw [lvGo] at hk
  simp only at hk
  rw [iter_succ, b62_0]
  by_cases hbb : b = found
  ·have hbt : beqI (.ofNat b) (.ofNat found) = true := by rw [hbb]; exact beqI_self
   rw [if_pos hbt] at hk hok
   have hv := hle a
   have ea : a < lv.length := by omega
   have eb : b < lv.length := by omega
   have eta : (Int.ofNat a).toNat = a := rfl
   rw [eta] at hk
   have e2 : wrapI .i64 (.ofNat (lv.getD a 0 + 1)) = .ofNat (lv.getD a 0 + 1) := wrap_i64 tO
   have e3 : wrapI .i64 (.ofNat (found + 1)) = .ofNat (found + 1) := wrap_i64 tO
   have e4 : ∀ (h : Hp) (f : Hp → Bool), stB (.cells (ints lv)) bo b [.int .i64 (.ofNat (lv.getD a 0 + 1))] h f = f (h.upd bo (.cells (ints (lv.set b (lv.getD a 0 + 1))))) := fun h f => stB_ints eb
   have e5 : ∀ (h : Hp) (c : KV), ldB (.cells (ints lv)) a h c = c (.int .i64 (.ofNat (lv.getD a 0))) h := fun h c => ldB_ints ea
   simp -implicitDefEqProofs (disch := exact tD) only [↓sD, sB, ↓reduceIte, Nat.reduceEqDiff, g3, g4, g15, g16, g17, hi', decide_true, idx_slR, e1, st_agg, stB_all, hbt, mo, e5, e2, e4, e3, show (a < nn) = True from eq_true ha, show (b < nn) = True from eq_true hb]
   refine ih (some (.ofNat a, .ofNat b)) f (found + 1) (i + 1) M _ _ (lv.set b (lv.getD a 0 + 1)) (drop_next hr) tO tO hok tO (by rw [List.length_set]; exact hll) ?_ (K1.put (b := bo) (.inr (by simp)) _) ?_ ?_ ?_ ?_ ?_ ?_ (by rw [hbb]; exact hk)
   ·intro j
    by_cases hj : j = b
    ·subst hj
     rw [List.getD_eq_getElem?_getD, List.getElem?_set_self eb]; simp only [Option.getD_some]; omega
    ·rw [List.getD_eq_getElem?_getD, List.getElem?_set_ne (fun e => hj e.symm), ← List.getD_eq_getElem?_getD]
     have := hle j; omega
   ·exact Ssc0
   ·exact Ssc g3
   ·exact Ssc0
   ·exact Ssc g15
   ·exact Ssc g16
   ·exact Ssc0
  ·have hbt : beqI (.ofNat b) (.ofNat found) = false := by rw [beqI_ofNat, decide_eq_false hbb]
   rw [if_neg (by rw [hbt]; simp)] at hk hok
   refine Tst (J9 g4 g15 g16 g17 hi' e1 @st_agg @stB_all hbt) ?_
   refine ih (some (.ofNat a, .ofNat b)) f found (i + 1) M _ _ lv (drop_next hr) tO tO hok hfn hll hle K1 ?_ ?_ ?_ ?_ ?_ ?_ hk
   ·exact Ssc mo
   ·exact Ssc g3
   ·exact Ssc g4
   ·exact Ssc g15
   ·exact Ssc g16
   ·exact Ssc0
theorem Gr.ok_parts {g : Gr} (hok : g.ok = true) : g.states.length ≤ 20000 ∧ g.edges.length ≤ 100000 ∧ g.init.length ≤ g.states.length ∧ stOK (g.states.headD ⟨true, 0, []⟩).l.length [] g.states = true ∧ initOK 0 g.init = true ∧ edOK g.states.length none g.init.length g.edges = some g.states.length := by
 simp only [Gr.ok, Bool.and_eq_true, Bool.not_eq_true', decide_eq_false_iff_not, beq_iff_eq] at hok
 obtain ⟨⟨⟨⟨⟨h1, h2⟩, h3⟩, h4⟩, h5⟩, h6⟩ := hok
 exact ⟨by omega, by omega, by omega, h4, h5, h6⟩
theorem call62 (hE : Fns E) {g : Gr} (hok : g.ok = true) (hL : g.bulk ≤ L) (hk : ∀ h1 b, Keeps h h1 → blk h1 b = .cells (ints g.lv) → (nxt h).num ≤ b.num → b.num < (nxt h1).num → kc (.ret (.sl b 0 g.states.length g.states.length 0)) none h1 = true) :
  call E (L + 1) (n + 1) (.fn 47) [.agg g.cells] none h kc = true := by
 obtain ⟨h1, h2, h3, h4, h5, h6⟩ := Gr.ok_parts hok
 have hbb : g.states.length + bulkS g.states + g.init.length + 2 * g.edges.length ≤ L := hL
 rw [call_fn hE.f62, c62, r62, p62_0, p62_1, p62_2, p62_3, p62_4]
 have em : ∀ (h : Hp) (c : KV), oMkslice (.int .i64 (.ofNat g.states.length)) (.int .i64 (.ofNat g.states.length)) [.int .i64 (.ofNat 0)] 8 h c = c (.sl (nxt h) 0 g.states.length g.states.length 0) (h.upd (nxt h) (.cells (ints (List.replicate g.states.length 0)))).bump := fun h c => by rw [mks_nat tO, rep_ints]
 have K2 : Keeps h ((h.upd (nxt h) (.cells g.cells)).upd (nxt h).succ (.cells (ints (List.replicate g.states.length 0)))).bump.bump := kO
 simp -implicitDefEqProofs (disch := exact tD) only [↓sD, sB, ↓reduceIte, Nat.reduceEqDiff, Gr.cells, em, exec_loop]
 refine loop62 (bo := (nxt h).succ) (g := g) (nn := g.states.length) h1 h2 (h0 := ((h.upd (nxt h) (.cells g.cells)).upd (nxt h).succ (.cells (ints (List.replicate g.states.length 0)))).bump.bump) tN g.edges none g.states.length g.init.length 0 _ _ _ (List.replicate g.states.length 0) rfl tO tO h6 h3 (by simp) (fun j => ?_) (.refl _ _) ?_ ?_ ?_ ?_ ?_ ?_ (fun t1 h7 K7 m7 g3 => ?_)
 ·rw [List.getD_eq_getElem?_getD, List.getElem?_replicate]; split <;> simp
 ·exact Ssc0
 ·exact Ssc0
 ·exact Ssc0
 ·exact Ssc0
 ·exact Ssc0
 ·exact Ssc0
 ·have n7 := K7.nx
  simp only [nB] at n7
  refine Sst g3 ?_
  refine hk h7 (nxt h).succ ⟨by ((try simp only [nB]); omega), fun c hc => ?_⟩ m7 tN tN
  rw [K7.old c tN (by simp only [List.mem_cons, List.not_mem_nil, or_false]; exact fun e => by subst e; rw [K.num_succ] at hc; omega), K2.old c hc]
theorem call29 (hE : Fns E) (hL9 : L ≤ 9223372036854775800) (hn : 181 ≤ n) {g : Gr} (hb : g.bulk ≤ L) (hb2 : g.bulk ≤ 20000000) (hbad : g.ok = false → ∀ h1, Keeps h h1 → kc (.ret (.tup [.nils, .int .i64 (.ofNat 230)])) none h1 = true)
  (hk : g.ok = true → ∀ h1 b, Keeps h h1 → blk h1 b = .cells (ints g.lv) → (nxt h).num ≤ b.num → b.num < (nxt h1).num → kc (.ret (.tup [.sl b 0 g.states.length g.states.length 0, .int .i64 (.ofNat 0)])) none h1 = true) :
  call E (L + 8) (n + 7) (.fn 8) [.agg g.cells] none h kc = true := by
 have l3 := g.cells_length
 have K0 : Keeps h (h.upd (nxt h) (.cells g.cells)).bump := kO
 rw [call_fn hE.f29, c29, r29, p29_0, p29_1, p29_2]
 refine Sst (J2 @ldN_all l3) ?_
 refine call61 hE hL9 hn hb hb2 (fun h1 K1 => ?_)
 have K2 := K0.trans K1
 cases hok : g.ok
 ·refine Sst0 ?_
  exact hbad hok h1 K2
 ·have n1 := K1.nx
  simp only [nB] at n1
  have m1 := K1.old (nxt h) tN
  simp -implicitDefEqProofs only [sB] at m1
  refine Sst (J3 m1 @ldN_all l3) ?_
  refine call62 hE (L := L + 7) hok tO (fun h2 b K3 m2 b1 b2 => ?_)
  refine Sst0 ?_
  exact hk hok h2 b (K2.trans K3) m2 (by have := K2.nx; omega) b2
end
end Go.AJ
