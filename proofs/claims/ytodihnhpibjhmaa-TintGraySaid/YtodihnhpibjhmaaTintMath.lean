/- The plain laws of the colour conversion. -/
import Derived.Test.YtodihnhpibjhmaaTint
namespace Go.Proofs.Ytodihnhpibjhmaa
theorem light (r g b : Int) (hr : 0 ≤ r ∧ r ≤ 255) (hg : 0 ≤ g ∧ g ≤ 255) (hb : 0 ≤ b ∧ b ≤ 255) : min (min r g) b ≤ toY r g b ∧ toY r g b ≤ max (max r g) b := by
  unfold toY samp
  have := rnd_spec (19595 * r + 38470 * g + 7471 * b) 65536 (by omega)
  omega
theorem gray (n : Int) (h : 0 ≤ n ∧ n ≤ 255) : toY n n n = n ∧ toU n n n = 128 ∧ toV n n n = 128 ∧ fromR n 128 128 = n ∧ fromG n 128 128 = n ∧ fromB n 128 128 = n := by
  unfold toY toU toV fromR fromG fromB samp
  have h1 := rnd_spec (19595 * n + 38470 * n + 7471 * n) 65536 (by omega)
  have h2 := rnd_spec (8388608 + -11059 * n + -21709 * n + 32768 * n) 65536 (by omega)
  have h3 := rnd_spec (8388608 + 32768 * n + -27439 * n + -5329 * n) 65536 (by omega)
  have h4 := rnd_spec (65536 * n + 91881 * 128 - 11760768) 65536 (by omega)
  have h5 := rnd_spec (65536 * n + -22554 * 128 + -46802 * 128 + 8877568) 65536 (by omega)
  have h6 := rnd_spec (65536 * n + 116130 * 128 - 14864640) 65536 (by omega)
  refine ⟨?_, ?_, ?_, ?_, ?_, ?_⟩
  · clear h2 h3 h4 h5 h6; omega
  · clear h1 h3 h4 h5 h6; omega
  · clear h1 h2 h4 h5 h6; omega
  · clear h1 h2 h3 h5 h6; omega
  · clear h1 h2 h3 h4 h6; omega
  · clear h1 h2 h3 h4 h5; omega
theorem backR (r g b : Int) (hr : 0 ≤ r ∧ r ≤ 255) (hg : 0 ≤ g ∧ g ≤ 255) (hb : 0 ≤ b ∧ b ≤ 255) : max (r - fromR (toY r g b) (toU r g b) (toV r g b)) (fromR (toY r g b) (toU r g b) (toV r g b) - r) ≤ 2 := by
  have hy := light r g b hr hg hb
  generalize hv : toV r g b = v at *
  generalize hyy : toY r g b = y at *
  have h1 := rnd_spec (19595 * r + 38470 * g + 7471 * b) 65536 (by omega)
  have h2 := rnd_spec (8388608 + 32768 * r + -27439 * g + -5329 * b) 65536 (by omega)
  have h3 := rnd_spec (65536 * y + 91881 * v - 11760768) 65536 (by omega)
  unfold toV samp at hv
  unfold toY samp at hyy
  unfold fromR samp
  omega
theorem backG (r g b : Int) (hr : 0 ≤ r ∧ r ≤ 255) (hg : 0 ≤ g ∧ g ≤ 255) (hb : 0 ≤ b ∧ b ≤ 255) : max (g - fromG (toY r g b) (toU r g b) (toV r g b)) (fromG (toY r g b) (toU r g b) (toV r g b) - g) ≤ 2 := by
  generalize hu : toU r g b = u at *
  generalize hv : toV r g b = v at *
  generalize hyy : toY r g b = y at *
  have h1 := rnd_spec (19595 * r + 38470 * g + 7471 * b) 65536 (by omega)
  have h2 := rnd_spec (8388608 + 32768 * r + -27439 * g + -5329 * b) 65536 (by omega)
  have h4 := rnd_spec (8388608 + -11059 * r + -21709 * g + 32768 * b) 65536 (by omega)
  have h3 := rnd_spec (65536 * y + -22554 * u + -46802 * v + 8877568) 65536 (by omega)
  unfold toU samp at hu
  unfold toV samp at hv
  unfold toY samp at hyy
  unfold fromG samp
  omega
theorem backB (r g b : Int) (hr : 0 ≤ r ∧ r ≤ 255) (hg : 0 ≤ g ∧ g ≤ 255) (hb : 0 ≤ b ∧ b ≤ 255) : max (b - fromB (toY r g b) (toU r g b) (toV r g b)) (fromB (toY r g b) (toU r g b) (toV r g b) - b) ≤ 2 := by
  generalize hu : toU r g b = u at *
  generalize hyy : toY r g b = y at *
  have h1 := rnd_spec (19595 * r + 38470 * g + 7471 * b) 65536 (by omega)
  have h4 := rnd_spec (8388608 + -11059 * r + -21709 * g + 32768 * b) 65536 (by omega)
  have h3 := rnd_spec (65536 * y + 116130 * u - 14864640) 65536 (by omega)
  unfold toU samp at hu
  unfold toY samp at hyy
  unfold fromB samp
  omega
end Go.Proofs.Ytodihnhpibjhmaa
