/- The walks of quant.Round, of tint.three, tint.To, tint.From (all samples in their bounds), and of mezzotintref.Rest. -/
import Derived.Test.YtccgcefeenloiaaProg
import Derived.Test.YtccgcefeenloiaaBase
namespace Go.Proofs.Ytccgcefeenloiaa
open Go.RowKit

theorem rest_any (n m : Int) (w : World) (hm : 0 < m) (hm2 : m ≤ 9223372036854775807) :
    Calls Try.prog 6 #[.int .i64 n, .int .i64 m] w fun e w' => e = .returned (.int .i64 (n % m)) ∧ w = w' := by
  have h0 := emod_of_tmod_neg n m hm
  have h1 := emod_of_tmod_pos n m hm
  have hb : n.tmod m ≤ m := by have := Int.tmod_lt_of_pos n hm; omega
  by_cases h : n.tmod m < 0
  · have H : Hid (n.tmod m + m = n % m) := h0 h
    clear h0 h1
    have hb2 : -m < n.tmod m := by have := Int.lt_tmod_of_pos n hm; omega
    go_enter Try.func6, Try.ntmps6
    go_wp2
    go_ret
    exact ⟨ret_int H.out, rfl⟩
  · have H : Hid (n.tmod m = n % m) := h1 (by omega)
    clear h0 h1
    have h3 : 0 ≤ n.tmod m := by omega
    clear h
    go_enter Try.func6, Try.ntmps6
    go_wp2
    go_ret
    exact ⟨ret_int H.out, rfl⟩

/-- The luminance and the two chrominances of a colour, and back. -/
def toY (r g b : Int) : Int := samp (rnd (19595 * r + 38470 * g + 7471 * b) 65536)
def toU (r g b : Int) : Int := samp (rnd (8388608 + -11059 * r + -21709 * g + 32768 * b) 65536)
def toV (r g b : Int) : Int := samp (rnd (8388608 + 32768 * r + -27439 * g + -5329 * b) 65536)
def fromR (y _u v : Int) : Int := samp (rnd (65536 * y + 91881 * v - 11760768) 65536)
def fromG (y u v : Int) : Int := samp (rnd (65536 * y + -22554 * u + -46802 * v + 8877568) 65536)
def fromB (y u _v : Int) : Int := samp (rnd (65536 * y + 116130 * u - 14864640) 65536)

theorem toY_b (r g b : Int) : 0 ≤ toY r g b ∧ toY r g b ≤ 255 := samp_bounds _
theorem toU_b (r g b : Int) : 0 ≤ toU r g b ∧ toU r g b ≤ 255 := samp_bounds _
theorem toV_b (r g b : Int) : 0 ≤ toV r g b ∧ toV r g b ≤ 255 := samp_bounds _
end Go.Proofs.Ytccgcefeenloiaa
