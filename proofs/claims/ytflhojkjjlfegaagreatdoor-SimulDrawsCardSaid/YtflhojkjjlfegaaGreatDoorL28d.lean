/- SimulAlike answers true. -/
import Derived.Test.YtflhojkjjlfegaaGreatDoorL28c
namespace Go.AJ
open Go Go.Proofs

theorem law4 {x : Nat} {a : Int} {h : Hp} : ∃ L n h', ∀ kc : KC, call EzC L n (.fn 4) [.int .u64 (.ofNat x), .int .i64 a] none h kc = kc (.ret (.bool true)) none h' := by
  by_cases h1 : ltI a (.ofNat 1) = true
  · exact ⟨1, 3, h, fun kc => law4_bad (L := 0) (n := 0) (.inl h1)⟩
  · by_cases h2 : ltI (.ofNat 2147483648) a = true
    · exact ⟨1, 3, h, fun kc => law4_bad (L := 0) (n := 0) (.inr h2)⟩
    · have h1 : ltI a (.ofNat 1) = false := by simpa using h1
      have h2 : ltI (.ofNat 2147483648) a = false := by simpa using h2
      have g1 : ¬ a < .ofNat 1 := by rw [ltI_eq] at h1; exact of_decide_eq_false h1
      have g2 : ¬ (.ofNat 2147483648 : Int) < a := by rw [ltI_eq] at h2; exact of_decide_eq_false h2
      have g1 : 1 ≤ a := by simp only [Int.ofNat_eq_natCast] at g1; omega
      have g2 : a ≤ 2147483648 := by simp only [Int.ofNat_eq_natCast] at g2; omega
      obtain ⟨m, rfl⟩ := Int.eq_ofNat_of_zero_le (show 0 ≤ a by omega)
      have m1 : 1 ≤ m := by omega
      have m2 : m ≤ 2147483648 := by omega
      obtain ⟨j, y, hf⟩ := found_ex m1 m2 x
      have hmod := Nat.mod_lt (outg y) (show 0 < m by omega)
      have e5 : beqI (.ofNat m) 0 = false := by rw [show (0 : Int) = .ofNat 0 from rfl, beqI_ofNat, decide_eq_false (by omega)]
      have e8 : wrapI .u64 (Int.sub (.ofNat 4294967296) (.ofNat (4294967296 % m))) = .ofNat (below m) := by
        have q1 := Nat.div_add_mod 4294967296 m
        have q2 := Nat.mod_lt 4294967296 (show 0 < m by omega)
        have q3 : 4294967296 - 4294967296 % m = below m := by
          unfold below
          rw [Nat.mul_comm] at q1
          omega
        have q4 : below m ≤ 4294967296 := by omega
        rw [sub_ofNat (by omega), wrap_u64, q3, Nat.mod_eq_of_lt (by omega)]
      exact ⟨j + 1, 4, _, fun kc => law4_any (L := j) (n := 0) (h := h) (kc := kc) (a := .ofNat m) (v := .ofNat (outg y % m)) h1 h2 (call8 m1 m2 hf (Nat.le_refl _))
        (by rw [ltI_ofNat, decide_eq_false (by omega)]) (by rw [ltI_ofNat, decide_eq_true hmod]) (by rw [wrap_u64, Nat.mod_eq_of_lt (by omega)])
        (ibin_rem same_u64 e5) (wrap_i64 (by omega)) e8 hf (Nat.le_refl _)⟩

/-- SimulAlike, in any memory and on any tape. -/
theorem alike_calls {g a : Int} (hg : 0 ≤ g) (w : World) : Calls Tryz.prog 4 #[.int .u64 g, .int .i64 a] w fun r w' => r = .returned (.bool true) ∧ w.heap.size ≤ w'.heap.size ∧ (∀ i, i < w.heap.size → w'.heap[i]? = w.heap[i]?) ∧ w'.os = w.os ∧ w'.tape = w.tape ∧ w'.output = w.output := by
  obtain ⟨x, rfl⟩ := Int.eq_ofNat_of_zero_le hg
  obtain ⟨L, n, h', hk⟩ := law4 (x := x) (a := a) (h := .mk .l .h)
  have hrun : call EzC L n (.fn 4) [.int .u64 (.ofNat x), .int .i64 a] none (.mk .l .h) (retK fun v _ => isT v) = true := by rw [hk]; rfl
  intro cs
  obtain ⟨e, w', fr, ⟨v, h', ρ', v', hg, rfl, hv, H, E⟩, hc⟩ := call_calls Xz_ok mixed EzC_ok L n hrun (HR.empty w) (.cons _ _ _ _ (.int _ _) (.cons _ _ _ _ (.int _ _) .nil)) cs
  refine ⟨_, w', fr, ⟨?_, E.size, E.old, E.os, E.tape, E.out⟩, hc⟩
  cases hv <;> simp_all [isT]

end Go.AJ

