/- The generator goes round: behind 2^63 steps the first digit is turned. -/
import Derived.Test.YtflhojkjjlfegaaGreatDoorL28a
namespace Go.AJ

/-- Steps. -/
def itf (f : Nat → Nat) : Nat → Nat → Nat
  | 0, x => x
  | k + 1, x => itf f k (f x)

theorem itf_add (f : Nat → Nat) (a b x : Nat) : itf f (a + b) x = itf f b (itf f a x) := by
  induction a generalizing x with
  | zero => rw [Nat.zero_add]; rfl
  | succ a ih => rw [show a + 1 + b = (a + b) + 1 by omega]; exact ih (f x)

/-- What 2^k steps do: times the first, plus the second. -/
def pwf (a b M : Nat) : Nat → Nat × Nat
  | 0 => (a, b)
  | k + 1 => ((pwf a b M k).1 * (pwf a b M k).1 % M, ((pwf a b M k).1 * (pwf a b M k).2 + (pwf a b M k).2) % M)

theorem itf_pow {f : Nat → Nat} {a b M : Nat} (hf : ∀ x, f x = (x * a + b) % M) (k : Nat) : ∀ x, itf f (2 ^ k) x = (x * (pwf a b M k).1 + (pwf a b M k).2) % M := by
  induction k with
  | zero => intro x; exact hf x
  | succ k ih =>
    intro x
    rw [show 2 ^ (k + 1) = 2 ^ k + 2 ^ k by rw [Nat.pow_succ]; omega, itf_add, ih, ih]
    simp only [pwf]
    generalize (pwf a b M k).1 = a
    generalize (pwf a b M k).2 = b
    rw [Nat.add_mod, Nat.mul_mod, Nat.mod_mod, ← Nat.mul_mod, ← Nat.add_mod]
    rw [Nat.add_mod (x * (a * a % M)), Nat.mul_mod x, Nat.mod_mod, ← Nat.mul_mod, Nat.mod_mod, ← Nat.add_mod]
    congr 1
    rw [Nat.add_mul, Nat.mul_assoc, Nat.add_assoc]
    congr 2
    exact Nat.mul_comm _ _

theorem pwf_63 : pwf 6364136223846793005 1442695040888963407 18446744073709551616 63 = (1, 9223372036854775808) := by decide +kernel

theorem nxg_def (x : Nat) : nxg x = (x * 6364136223846793005 + 1442695040888963407) % 18446744073709551616 := rfl
theorem nxg_lt (x : Nat) : nxg x < 18446744073709551616 := by rw [nxg_def]; exact Nat.mod_lt _ (by omega)

theorem itf_half {f : Nat → Nat} (hf : ∀ x, f x = nxg x) {k : Nat} (hk : k = 63) (x : Nat) : itf f (2 ^ k) x = (x + 9223372036854775808) % 18446744073709551616 := by
  have hp : pwf 6364136223846793005 1442695040888963407 18446744073709551616 k = (1, 9223372036854775808) := by rw [hk]; exact pwf_63
  rw [itf_pow (fun x => (hf x).trans (nxg_def x)), hp, Nat.mul_one]

theorem below_big {m : Nat} (h1 : 1 ≤ m) (h2 : m ≤ 2147483648) : 2147483648 ≤ below m := by
  unfold below
  have h3 := Nat.div_add_mod 4294967296 m
  have h4 := Nat.mod_lt 4294967296 (show 0 < m by omega)
  rw [Nat.mul_comm] at h3
  omega

theorem found_of {f : Nat → Nat} (hf : ∀ x, f x = nxg x) {m : Nat} : ∀ (k x : Nat), outg (itf f (k + 1) x) < below m → ∃ j y, Found m j x y := by
  intro k
  induction k with
  | zero => intro x h; exact ⟨0, nxg x, .here x (by rw [← hf]; exact h)⟩
  | succ k ih =>
    intro x h
    by_cases hx : outg (nxg x) < below m
    · exact ⟨0, nxg x, .here x hx⟩
    · obtain ⟨j, y, hj⟩ := ih (f x) h
      rw [hf] at hj
      exact ⟨j + 1, y, .later j x y hx hj⟩

theorem outg_lt {x m : Nat} (hx : x < 9223372036854775808) (hb : 2147483648 ≤ m) : outg x < m := by
  unfold outg; omega

theorem found_ex {m : Nat} (h1 : 1 ≤ m) (h2 : m ≤ 2147483648) (x : Nat) : ∃ j y, Found m j x y := by
  have hb := below_big h1 h2
  obtain ⟨f, hf⟩ : ∃ f : Nat → Nat, ∀ x, f x = nxg x := ⟨nxg, fun _ => rfl⟩
  by_cases hx : nxg x < 9223372036854775808
  · exact ⟨0, nxg x, .here x (outg_lt hx hb)⟩
  · have hlt := nxg_lt x
    obtain ⟨k, hk⟩ : ∃ k : Nat, k = 63 := ⟨_, rfl⟩
    refine found_of hf (2 ^ k) x (outg_lt ?_ hb)
    rw [Nat.add_comm, itf_add, itf_half hf hk]
    have : itf f 1 x = f x := rfl
    rw [this, hf]
    omega

theorem Found.lt {m j x y : Nat} (h : Found m j x y) : y < 18446744073709551616 := by
  induction h with
  | here x h => exact nxg_lt x
  | later j x y h hf ih => exact ih

end Go.AJ

