/- The plain law of levels. -/
import Derived.Test.YtgdbpnpolelfoaaGreatDoorWd
import Derived.Test.YtgdbpnpolelfoaaGreatDoorOb
set_option linter.all false
/- The plain law of the levels of a graph: they do not decrease; an edge leads at most one down; each state has its edge. -/
namespace Go.AJ
open Go
theorem lvGo_keep : ∀ (r : List (Int × Int)) (lv : List Nat) (found j : Nat), j < found → (lvGo lv found r).getD j 0 = lv.getD j 0
 | [], lv, found, j, h => rfl
 | e :: r, lv, found, j, h => by
  rw [lvGo]
  split
  ·rw [lvGo_keep r _ _ j tO, List.getD_eq_getElem?_getD, List.getElem?_set_ne tO, ← List.getD_eq_getElem?_getD]
  ·exact lvGo_keep r lv found j h
structure Par2 (r : List (Int × Int)) (prev : Option (Int × Int)) (n found f : Nat) (lv : List Nat) (par : Nat → Nat) : Prop where
 le : found ≤ f
 lt : ∀ j, found ≤ j → j < f → par j < j
 mem : ∀ j, found ≤ j → j < f → (Int.ofNat (par j), Int.ofNat j) ∈ r
 lvl : ∀ j, found ≤ j → j < f → lv.getD j 0 = lv.getD (par j) 0 + 1
 mono : ∀ i j, found ≤ i → i ≤ j → j < f → par i ≤ par j
 prv : ∀ p, prev = some p → ∀ j, found ≤ j → j < f → p.1 ≤ Int.ofNat (par j)
 edge : ∀ e ∈ r, ∃ a b : Nat, e = (Int.ofNat a, Int.ofNat b) ∧ a < n ∧ b < n ∧ b < f ∧ (∀ p, prev = some p → p.1 ≤ Int.ofNat a) ∧ (b < found ∨ par b ≤ a)
theorem prev_le {p e : Int × Int} (h : ltI (cmpE p e) (.ofNat 0) = true) : p.1 ≤ e.1 := by
 rw [ltI_eq] at h
 have h := of_decide_eq_true h
 unfold cmpE at h
 rw [orI_eq, cmpI_eq] at h
 by_cases h1 : p.1 < e.1
 ·omega
 ·by_cases h2 : e.1 < p.1
  ·rw [if_neg h1, if_pos h2] at h
   simp at h
  ·omega
theorem par_ok : ∀ (r : List (Int × Int)) (prev : Option (Int × Int)) (n f found : Nat) (lv : List Nat), edOK n prev found r = some f → lv.length = n → found ≤ n →
  ∃ par, Par2 r prev n found f (lvGo lv found r) par
 | [], prev, n, f, found, lv, h, hl, hf => by
  rw [edOK] at h; cases h
  exact ⟨fun _ => 0, Nat.le_refl _, fun j h1 h2 => tO, fun j h1 h2 => tO, fun j h1 h2 => tO, fun i j h1 h2 h3 => tO, fun p _ j h1 h2 => tO, fun e he => (by cases he)⟩
 | e :: r, prev, n, f, found, lv, h, hl, hf => by
  rw [edOK] at h
  cases hed : edge1 n prev found e
  ·rw [hed, if_neg (by simp)] at h; cases h
  rw [hed, if_pos rfl] at h
  have hpv : prevOK prev e = true := by
   unfold edge1 at hed
   simp only [Bool.and_eq_true] at hed
   exact hed.1.1.2
  obtain ⟨a, b, rfl, ha, hb, haf, hbf, _⟩ := edge1_nat hed
  have hpa : ∀ p, prev = some p → p.1 ≤ Int.ofNat a := fun p hp => by
   subst hp; exact prev_le hpv
  cases hc : beqI (.ofNat b) (.ofNat found)
  ·simp only [hc, Bool.false_eq_true, if_false] at h
   have hbl : b < found := by
    have : b ≠ found := fun e => by rw [e, beqI_self] at hc; cases hc
    omega
   obtain ⟨par, P⟩ := par_ok r _ n f found lv h hl hf
   have e1 : lvGo lv found ((Int.ofNat a, Int.ofNat b) :: r) = lvGo lv found r := by rw [lvGo, hc, if_neg (by simp)]
   rw [e1]
   refine ⟨par, P.le, P.lt, fun j h1 h2 => List.mem_cons_of_mem _ (P.mem j h1 h2), P.lvl, P.mono, fun p hp j h1 h2 => ?_, fun e' he => ?_⟩
   ·have h3 := P.prv _ rfl j h1 h2
    have h4 := hpa p hp
    simp only at h3
    omega
   ·rcases List.mem_cons.1 he with rfl | he
    ·exact ⟨a, b, rfl, ha, hb, by have := P.le; omega, hpa, .inl hbl⟩
    ·obtain ⟨a', b', e2, x1, x2, x3, x4, x5⟩ := P.edge e' he
     refine ⟨a', b', e2, x1, x2, x3, fun p hp => ?_, x5⟩
     have h3 := x4 _ rfl
     have h4 := hpa p hp
     simp only at h3
     omega
  ·simp only [hc, if_true] at h
   have hbe : b = found := Int.ofNat.inj (beqI_iff.1 hc)
   subst hbe
   have e1 : lvGo lv b ((Int.ofNat a, Int.ofNat b) :: r) = lvGo (lv.set b (lv.getD a 0 + 1)) (b + 1) r := by rw [lvGo, hc, if_pos rfl]; rfl
   obtain ⟨par, P⟩ := par_ok r _ n f (b + 1) (lv.set b (lv.getD a 0 + 1)) h (by rw [List.length_set]; exact hl) tO
   rw [e1]
   have eb : (lvGo (lv.set b (lv.getD a 0 + 1)) (b + 1) r).getD b 0 = (lvGo (lv.set b (lv.getD a 0 + 1)) (b + 1) r).getD a 0 + 1 := by
    rw [lvGo_keep r _ _ b tO, lvGo_keep r _ _ a tO, List.getD_eq_getElem?_getD, List.getElem?_set_self tO, Option.getD_some]
    rw [List.getD_eq_getElem?_getD (l := lv.set b _), List.getElem?_set_ne tO, ← List.getD_eq_getElem?_getD]
   have hle := P.le
   have hap : ∀ j, b + 1 ≤ j → j < f → a ≤ par j := fun j h1 h2 => by
    have h3 := P.prv _ rfl j h1 h2
    simp only at h3
    exact Int.ofNat_le.1 h3
   refine ⟨fun j => if j = b then a else par j, by omega, fun j h1 h2 => ?_, fun j h1 h2 => ?_, fun j h1 h2 => ?_, fun i j h1 h2 h3 => ?_, fun p hp j h1 h2 => ?_, fun e' he => ?_⟩
   ·by_cases hj : j = b
    ·simp only [hj, if_true]; exact haf
    ·simp only [hj, if_false]; exact P.lt j tO h2
   ·by_cases hj : j = b
    ·simp only [hj, if_true]; exact List.mem_cons_self
    ·simp only [hj, if_false]; exact List.mem_cons_of_mem _ (P.mem j tO h2)
   ·by_cases hj : j = b
    ·simp only [hj, if_true]; exact eb
    ·simp only [hj, if_false]; exact P.lvl j tO h2
   ·by_cases hi : i = b
    ·by_cases hj : j = b
     ·simp only [hi, hj, if_true]; exact Nat.le_refl _
     ·simp only [hi, hj, if_true, if_false]; exact hap j tO h3
    ·have hj : j ≠ b := by omega
     simp only [hi, hj, if_false]; exact P.mono i j tO h2 h3
   ·by_cases hj : j = b
    ·simp only [hj, if_true]; exact hpa p hp
    ·simp only [hj, if_false]
     have h3 := hap j tO h2
     have h4 := hpa p hp
     have h5 : Int.ofNat a ≤ Int.ofNat (par j) := Int.ofNat_le.2 h3
     omega
   ·rcases List.mem_cons.1 he with rfl | he
    ·refine ⟨a, b, rfl, ha, hb, by omega, hpa, .inr ?_⟩
     simp only [if_true]; exact Nat.le_refl _
    ·obtain ⟨a', b', e2, x1, x2, x3, x4, x5⟩ := P.edge e' he
     have h3 := x4 _ rfl
     simp only at h3
     have h3' : a ≤ a' := Int.ofNat_le.1 h3
     refine ⟨a', b', e2, x1, x2, x3, fun p hp => by have := hpa p hp; omega, ?_⟩
     by_cases hj : b' = b
     ·right; simp only [hj, if_true]; exact h3'
     ·rcases x5 with x5 | x5
      ·left; omega
      ·right; simp only [hj, if_false]; exact x5
structure LvLaw (g : Gr) : Prop where
 le : ∀ j, g.lv.getD j 0 ≤ g.states.length
 edge : ∀ e ∈ g.edges, ∃ a b : Nat, e = (Int.ofNat a, Int.ofNat b) ∧ a < g.states.length ∧ b < g.states.length ∧ g.lv.getD b 0 ≤ g.lv.getD a 0 + 1
 mono : ∀ i j, i ≤ j → j < g.states.length → g.lv.getD i 0 ≤ g.lv.getD j 0
 init : ∀ j, j < g.init.length → g.lv.getD j 0 = 0
 has : ∀ j, g.init.length ≤ j → j < g.states.length → ∃ a, a < g.states.length ∧ (Int.ofNat a, Int.ofNat j) ∈ g.edges ∧ g.lv.getD j 0 = g.lv.getD a 0 + 1
theorem Gr.lv_law {g : Gr} (hok : g.ok = true) : LvLaw g := by
 obtain ⟨c1, c2, c3, c4, c5, c6⟩ := Gr.ok_parts hok
 have hrep : (List.replicate g.states.length 0).length = g.states.length := by simp
 obtain ⟨par, P⟩ := par_ok g.edges none g.states.length g.states.length g.init.length (List.replicate g.states.length 0) c6 hrep c3
 have elv : lvGo (List.replicate g.states.length 0) g.init.length g.edges = g.lv := rfl
 rw [elv] at P
 have ini : ∀ j, j < g.init.length → g.lv.getD j 0 = 0 := fun j hj => by
  rw [Gr.lv, lvGo_keep _ _ _ j hj, List.getD_eq_getElem?_getD, List.getElem?_replicate]; split <;> rfl
 have mono : ∀ j i, i ≤ j → j < g.states.length → g.lv.getD i 0 ≤ g.lv.getD j 0 := by
  intro j
  induction j using Nat.strongRecOn with
  | ind j ih =>
   intro i hij hj
   by_cases hi : i < g.init.length
   ·rw [ini i hi]; exact Nat.zero_le _
   ·have p1 := P.lvl i tO tO
    have p2 := P.lvl j tO hj
    have p3 := P.mono i j tO hij hj
    have p4 := P.lt j tO hj
    have := ih (par j) p4 (par i) p3 tO
    omega
 have le : ∀ j, j < g.states.length → g.lv.getD j 0 ≤ j := by
  intro j
  induction j using Nat.strongRecOn with
  | ind j ih =>
   intro hj
   by_cases hi : j < g.init.length
   ·rw [ini j hi]; exact Nat.zero_le _
   ·have p1 := P.lvl j tO hj
    have p2 := P.lt j tO hj
    have := ih (par j) p2 tO
    omega
 refine ⟨fun j => ?_, fun e he => ?_, fun i j h1 h2 => mono j i h1 h2, ini, fun j h1 h2 => ?_⟩
 ·by_cases hj : j < g.states.length
  ·have := le j hj; omega
  ·rw [List.getD_eq_getElem?_getD, List.getElem?_eq_none (by rw [g.lv_length]; omega)]; exact Nat.zero_le _
 ·obtain ⟨a, b, e1, x1, x2, x3, _, x5⟩ := P.edge e he
  refine ⟨a, b, e1, x1, x2, ?_⟩
  by_cases hb : b < g.init.length
  ·rw [ini b hb]; exact Nat.zero_le _
  ·have h3 : par b ≤ a := x5.resolve_left hb
   have h4 := P.lvl b tO x2
   have := mono a (par b) h3 x1
   omega
 ·have h3 := P.lt j h1 h2
  exact ⟨par j, by omega, P.mem j h1 h2, P.lvl j h1 h2⟩
end Go.AJ
