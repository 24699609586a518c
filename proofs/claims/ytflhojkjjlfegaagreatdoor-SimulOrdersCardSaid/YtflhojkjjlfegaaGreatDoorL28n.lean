/- Exchanges: what they keep. No program in sight. -/
import Derived.Test.YtflhojkjjlfegaaGreatDoorL28l
namespace Go.AJ

theorem swp_get {l : List Nat} {i k q : Nat} (hi : i < l.length) (hk : k < l.length) : (swp l i k).getD q 0 = if q = k then l.getD i 0 else if q = i then l.getD k 0 else l.getD q 0 := by
  unfold swp
  simp only [List.getD_eq_getElem?_getD, List.getElem?_set, List.length_set]
  by_cases h1 : q = k
  · subst h1; simp [hk]
  · by_cases h2 : q = i
    · subst h2
      rw [if_neg (fun e => h1 e.symm), if_neg h1]
      simp [hi]
    · rw [if_neg (fun e => h1 e.symm), if_neg (fun e => h2 e.symm), if_neg h1, if_neg h2]

/-- Different places hold different numbers. -/
def Dis (l : List Nat) : Prop := ∀ a b, a < l.length → b < l.length → l.getD a 0 = l.getD b 0 → a = b
def Und (m : Nat) (l : List Nat) : Prop := ∀ a, a < l.length → l.getD a 0 < m

theorem Dis.swp {l : List Nat} {i k : Nat} (h : Dis l) (hi : i < l.length) (hk : k < l.length) : Dis (swp l i k) := by
  intro a b ha hb e
  rw [swp_length] at ha hb
  rw [swp_get hi hk, swp_get hi hk] at e
  (repeat' split at e) <;> first
    | omega
    | (have := h _ _ hi hk e; omega)
    | (have := h _ _ hi hb e; omega)
    | (have := h _ _ hk hi e; omega)
    | (have := h _ _ ha hi e; omega)
    | (have := h _ _ hk hb e; omega)
    | (have := h _ _ ha hk e; omega)
    | exact h _ _ ha hb e

theorem Und.swp {m : Nat} {l : List Nat} {i k : Nat} (h : Und m l) (hi : i < l.length) (hk : k < l.length) : Und m (swp l i k) := by
  intro a ha
  rw [swp_length] at ha
  rw [swp_get hi hk]
  split
  · exact h _ hi
  · split
    · exact h _ hk
    · exact h _ ha

theorem dis_range (m : Nat) : Dis (List.range m) := by
  intro a b ha hb e
  rw [List.length_range] at ha hb
  simpa [List.getD_eq_getElem?_getD, ha, hb] using e

theorem und_range (m : Nat) : Und m (List.range m) := by
  intro a ha
  rw [List.length_range] at ha
  simp [List.getD_eq_getElem?_getD, ha]

theorem shR_ok {J i : Nat} {l : List Nat} {x : Nat} {l' : List Nat} {y : Nat} (hs : ShR J i l x l' y) : i < l.length ∨ i = 0 → l'.length = l.length ∧ (∀ q, i < q → l'.getD q 0 = l.getD q 0) ∧ (Dis l → Dis l') ∧ ∀ m, Und m l → Und m l' := by
  induction hs with
  | done l x => intro _; exact ⟨rfl, fun _ _ => rfl, fun h => h, fun _ h => h⟩
  | step i l x j x1 l' y hj hf hs ih =>
    intro hi
    have hi : i + 1 < l.length := by omega
    have hk : outg x1 % (i + 2) < i + 2 := Nat.mod_lt _ (by omega)
    obtain ⟨h1, h2, h3, h4⟩ := ih (.inl (by rw [swp_length]; omega))
    rw [swp_length] at h1
    refine ⟨h1, fun q hq => ?_, fun h => h3 (h.swp hi (by omega)), fun m h => h4 m (h.swp hi (by omega))⟩
    rw [h2 q (by omega), swp_get hi (by omega), if_neg (by omega), if_neg (by omega)]

/-- What stands at the place of a step in the end. -/
theorem shR_at {J i : Nat} {l : List Nat} {x1 : Nat} {l' : List Nat} {y k : Nat} (hs : ShR J i (swp l (i + 1) k) x1 l' y) (hi : i + 1 < l.length) (hk : k < i + 2) : l'.getD (i + 1) 0 = l.getD k 0 := by
  obtain ⟨_, h2, _, _⟩ := shR_ok hs (.inl (by rw [swp_length]; omega))
  rw [h2 (i + 1) (by omega), swp_get hi (by omega)]
  split
  · rename_i e; rw [← e]
  · rw [if_pos rfl]

/-- The draws are those of a list. -/
inductive ShD (J : Nat) (D : List Nat) : Nat → Nat → Nat → Prop
  | done (x : Nat) : ShD J D 0 x x
  | step (i x j x1 y : Nat) (hj : j ≤ J) (hf : Found (i + 2) j x x1) (hD : D.getD (i + 1) 0 = outg x1 % (i + 2)) (h : ShD J D i x1 y) : ShD J D (i + 1) x y

end Go.AJ

