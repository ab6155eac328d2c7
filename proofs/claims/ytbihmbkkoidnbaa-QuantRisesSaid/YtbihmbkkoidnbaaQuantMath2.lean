/- What quantization up and down again does to a number. -/
import Derived.Test.YtbihmbkkoidnbaaQuantMath
namespace Go.Proofs.Ytbihmbkkoidnbaa
open Go.RowKit
theorem upF_in (n d : Int) : -40000 ≤ upF n d ∧ upF n d ≤ 40000 := by unfold upF; omega
theorem upR_in (b q : List Int) (hb : b.length = 64) (hq : q.length = 64) : allIn (zip2 upF b q) (-40000) 40000 = true := by
  rw [allIn_iff, zip2_len _ _ _ hb hq]
  intro i hi
  rw [zip2_get _ _ _ hb hq i hi]
  exact upF_in _ _
theorem rnd_mul (n d : Int) (hd : 1 ≤ d) : rnd (n * d) d = n := by
  have key : ∀ m : Int, 0 ≤ m → (2 * (m * d) + d) / (2 * d) = m := fun m hm => by
    rw [show 2 * (m * d) + d = d + (2 * d) * m by rw [Int.mul_assoc, Int.mul_comm d m]; omega, Int.add_mul_ediv_left _ _ (by omega), Int.ediv_eq_zero_of_lt (by omega) (by omega)]
    omega
  unfold rnd
  by_cases h : n * d < 0
  · rw [if_pos h]
    have hn : n < 0 := by
      by_cases h2 : 0 ≤ n
      · have := Int.mul_nonneg h2 (show 0 ≤ d by omega); omega
      · omega
    have := key (-n) (by omega)
    rw [Int.neg_mul] at this
    rw [this]; omega
  · rw [if_neg h]
    by_cases h2 : 0 ≤ n
    · exact key n h2
    · exfalso
      have := Int.mul_lt_mul_of_pos_right (show n < 0 by omega) (show 0 < d by omega)
      rw [Int.zero_mul] at this
      exact h this
theorem back_spec (n d : Int) (hd : 1 ≤ d) (h0 : -2047 ≤ n) (h1 : n ≤ 2047) (h : max n (-n) * d ≤ 40000) : dn (upF n d) d = n := by
  have e : upF n d = n * d := by
    unfold upF
    by_cases hn : 0 ≤ n
    · rw [show max n (-n) = n by omega] at h
      have := Int.mul_nonneg hn (show 0 ≤ d by omega)
      omega
    · rw [show max n (-n) = -n by omega, Int.neg_mul] at h
      have := Int.mul_nonneg (show 0 ≤ -n by omega) (show 0 ≤ d by omega)
      rw [Int.neg_mul] at this
      omega
  rw [e, dn, rnd_mul n d hd]
  omega
end Go.Proofs.Ytbihmbkkoidnbaa
