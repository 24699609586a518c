/- Steps are taken at once, and back. -/
import Derived.Test.YtflhojkjjlfegaaGreatDoorL28e
import Derived.KernelRfl
namespace Go.AJ
open Go Go.Proofs
set_option maxRecDepth 100000

section
variable {L n : Nat} {h : Hp} {kc : KC} {t : T V} {d : Dc} {k : KE} {fi : FI}

theorem call18 (L n : Nat) (h : Hp) (kc : KC) : call EzC (L + 8) (n + 1) (.fn 18) [] none h kc = kc (.ret (.int .u64 (.ofNat 13877824140714322085))) none h := by
  kernel_rfl

/-- N steps of the generator. -/
def skg (N x : Nat) : Nat := itf (app (6364136223846793005, 1442695040888963407)) N x

theorem call12s {N x : Nat} (hN : N ≤ 9223372036854775807) (hx : x < 18446744073709551616) (h : Hp) :
    ∃ h', Keeps h h' ∧ ∀ {L n : Nat} {kc : KC}, N ≤ L → call EzC (L + 1) (n + 2) (.fn 12) [.int .u64 (.ofNat x), .int .i64 (.ofNat N)] none h kc = kc (.ret (.tup [.int .u64 (.ofNat (skg N x)), .int .i64 (.ofNat 0)])) none h' := by
  obtain ⟨r, hr⟩ := skR_ex N N (Nat.le_refl _) (1, 0) (6364136223846793005, 1442695040888963407)
  obtain ⟨h', K', e⟩ := call12 hN hr hx h
  have : app r x = skg N x := by
    rw [skR_app hr x, skg]
    congr 1
    simp only [app]
    omega
  rw [this] at e
  exact ⟨h', K', e⟩

theorem app_lt (p : Pw) (x : Nat) : app p x < 18446744073709551616 := Nat.mod_lt _ (by omega)

theorem itf_lt {f : Nat → Nat} {M : Nat} (hf : ∀ x, f x < M) : ∀ (N x : Nat), x < M → itf f N x < M := by
  intro N
  induction N with
  | zero => intro x hx; exact hx
  | succ N ih => intro x hx; exact ih (f x) (hf x)

theorem skg_lt (N x : Nat) (hx : x < 18446744073709551616) : skg N x < 18446744073709551616 := itf_lt (app_lt _) N x hx

theorem skg_add (a b x : Nat) : skg (a + b) x = skg b (skg a x) := itf_add _ a b x

end
end Go.AJ

