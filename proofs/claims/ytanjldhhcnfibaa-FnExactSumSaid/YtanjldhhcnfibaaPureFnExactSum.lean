/- The program's Sum returns what the reference's Sum returns, for every text; no conditions. -/
import Derived.Test.YtanjldhhcnfibaaPFnExactSumx1
namespace Go.Proofs.Ytanjldhhcnfibaa.Pure
open Go.RowKit Go.Proofs.Ytanjldhhcnfibaa.PFnExactSum Go.Proofs.YtanjldhhcnfibaaW.PrintWords Go.Proofs.YtanjldhhcnfibaaW.PrintLast

/-- The two loops are one. -/
theorem same_l0 (s : ByteArray) : ∀ (k : Nat) (a b i : Int), spec_Sum.l0 k s a b i = impl_Sum.l0 k s a b i := by
  intro k
  induction k with
  | zero => intro a b i; rfl
  | succ k ih =>
    intro a b i
    simp only [spec_Sum.l0, impl_Sum.l0, ih]

/-- With rounds enough the loop answers. -/
theorem sum_ends (s : ByteArray) (hs : s.size ≤ 140737488351232) (d : Nat) : ∀ (k : Nat) (a b i : Int), 0 ≤ i → (s.size : Int) - i ≤ d → d < k → ∃ r, impl_Sum.l0 k s a b i = some r := by
  induction d with
  | zero =>
    intro k a b i h0 hd hk
    obtain ⟨k, rfl⟩ : ∃ m, k = m + 1 := ⟨k - 1, by omega⟩
    simp only [impl_Sum.l0]
    rw [if_neg (by omega)]
    exact ⟨_, rfl⟩
  | succ d ih =>
    intro k a b i h0 hd hk
    obtain ⟨k, rfl⟩ : ∃ m, k = m + 1 := ⟨k - 1, by omega⟩
    simp only [impl_Sum.l0]
    by_cases hi : i < (s.size : Int)
    · rw [if_pos hi, if_pos h0]
      have hw : wrap64 (i + 1) = i + 1 := by
        unfold wrap64
        omega
      rw [hw]
      exact ih k _ _ (i + 1) (by omega) (by omega) (by omega)
    · rw [if_neg hi]
      exact ⟨_, rfl⟩

theorem FnExactSum : laws_FnExactSum.Pure := by
  intro s hs
  obtain ⟨r, hr⟩ := sum_ends s hs s.size (s.size + 1) 1 0 0 (by omega) (by omega) (by omega)
  refine ⟨s.size + 1, ?_⟩
  unfold laws_FnExactSum.f spec_Sum.f impl_Sum.f
  by_cases h : (s.size : Int) > 1048576
  · rw [if_pos h]
  · rw [if_neg h, same_l0, hr]
    simp only [Option.bind_some, if_true]

end Go.Proofs.Ytanjldhhcnfibaa.Pure
