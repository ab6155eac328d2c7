/- The walks of quant.Round, of tint.three, tint.To, tint.From (all samples in their bounds), and of mezzotintref.Rest. -/
import Derived.Test.YtodihnhpibjhmaaProg
import Derived.Test.YtodihnhpibjhmaaBase
namespace Go.Proofs.Ytodihnhpibjhmaa
open Go.RowKit

theorem rest_any (n m : Int) (w : World) (hm : 0 < m) (hm2 : m ≤ 9223372036854775807) :
    Calls Try.prog 16 #[.int .i64 n, .int .i64 m] w fun e w' => e = .returned (.int .i64 (n % m)) ∧ w = w' := by
  have h0 := emod_of_tmod_neg n m hm
  have h1 := emod_of_tmod_pos n m hm
  have hb : n.tmod m ≤ m := by have := Int.tmod_lt_of_pos n hm; omega
  by_cases h : n.tmod m < 0
  · have H : Hid (n.tmod m + m = n % m) := h0 h
    clear h0 h1
    have hb2 : -m < n.tmod m := by have := Int.lt_tmod_of_pos n hm; omega
    go_enter Try.func16, Try.ntmps16
    go_wp2
    go_ret
    exact ⟨ret_int H.out, rfl⟩
  · have H : Hid (n.tmod m = n % m) := h1 (by omega)
    clear h0 h1
    have h3 : 0 ≤ n.tmod m := by omega
    clear h
    go_enter Try.func16, Try.ntmps16
    go_wp2
    go_ret
    exact ⟨ret_int H.out, rfl⟩

theorem round_pos (n d : Int) (w : World) (h0 : 0 ≤ n) (h1 : n ≤ 2305843009213693951) (h2 : 1 ≤ d) (h3 : d ≤ 1000000000) :
    Calls Try.prog 41 #[.int .i64 n, .int .i64 d] w fun e w' => e = .returned (.int .i64 (rnd n d)) ∧ w = w' := by
  have H : Hid ((2 * n + d) / (2 * d) = rnd n d) := by unfold Hid rnd; rw [if_neg (by omega)]
  have hn : ¬ n < 0 := by omega
  go_enter Try.func41, Try.ntmps41
  go_wp2_with fail
  go_ret
  exact ⟨ret_int H.out, rfl⟩
theorem round_any (n d : Int) (w : World) (h0 : -2305843009213693951 ≤ n) (h1 : n ≤ 2305843009213693951) (h2 : 1 ≤ d) (h3 : d ≤ 1000000000) :
    Calls Try.prog 41 #[.int .i64 n, .int .i64 d] w fun e w' => e = .returned (.int .i64 (rnd n d)) ∧ w = w' := by
  by_cases hn : n < 0
  · have hb := rnd_bounds (-n) d 2305843009213693951 (by omega) (by omega) h2
    have H : Hid (- rnd (-n) d = rnd n d) := by have := rnd_neg n d h2; unfold Hid; omega
    obtain ⟨hb1, hb2⟩ := hb
    go_enter Try.func41, Try.ntmps41
    go_wp2_with (go_at_call 41; refine (round_pos (-n) d _ (by omega) (by omega) h2 h3).mono ?_; rintro e w' ⟨rfl, rfl⟩)
    go_ret
    exact ⟨ret_int H.out, rfl⟩
  · exact round_pos n d w (by omega) h1 h2 h3

set_option maxRecDepth 100000 in
set_option maxHeartbeats 4000000 in
theorem three_any (a1 a2 a3 a4 b1 b2 b3 b4 c1 c2 c3 c4 r g b : Int) (w : World)
    (hr : 0 ≤ r ∧ r ≤ 255) (hg : 0 ≤ g ∧ g ≤ 255) (hb : 0 ≤ b ∧ b ≤ 255)
    (ha1 : -200000000 ≤ a1 ∧ a1 ≤ 200000000) (ha2 : -200000000 ≤ a2 ∧ a2 ≤ 200000000) (ha3 : -200000000 ≤ a3 ∧ a3 ≤ 200000000) (ha4 : -200000000 ≤ a4 ∧ a4 ≤ 200000000)
    (hb1 : -200000000 ≤ b1 ∧ b1 ≤ 200000000) (hb2 : -200000000 ≤ b2 ∧ b2 ≤ 200000000) (hb3 : -200000000 ≤ b3 ∧ b3 ≤ 200000000) (hb4 : -200000000 ≤ b4 ∧ b4 ≤ 200000000)
    (hc1 : -200000000 ≤ c1 ∧ c1 ≤ 200000000) (hc2 : -200000000 ≤ c2 ∧ c2 ≤ 200000000) (hc3 : -200000000 ≤ c3 ∧ c3 ≤ 200000000) (hc4 : -200000000 ≤ c4 ∧ c4 ≤ 200000000) :
    Calls Try.prog 30 #[.agg #[.int .i64 a1, .int .i64 a2, .int .i64 a3, .int .i64 a4, .int .i64 b1, .int .i64 b2, .int .i64 b3, .int .i64 b4, .int .i64 c1, .int .i64 c2, .int .i64 c3, .int .i64 c4], .agg #[.int .i64 r, .int .i64 g, .int .i64 b]] w
     fun e w' => e = .returned (.tuple #[.int .i64 (samp (rnd (a4 + a1 * r + a2 * g + a3 * b) 65536)), .int .i64 (samp (rnd (b4 + b1 * r + b2 * g + b3 * b) 65536)), .int .i64 (samp (rnd (c4 + c1 * r + c2 * g + c3 * b) 65536)), .int .i64 0]) ∧ Ext w w' := by
  have ⟨pa1, qa1⟩ := mulb a1 r 200000000 255 ha1 hr
  have ⟨pa2, qa2⟩ := mulb a2 g 200000000 255 ha2 hg
  have ⟨pa3, qa3⟩ := mulb a3 b 200000000 255 ha3 hb
  have ⟨pb1, qb1⟩ := mulb b1 r 200000000 255 hb1 hr
  have ⟨pb2, qb2⟩ := mulb b2 g 200000000 255 hb2 hg
  have ⟨pb3, qb3⟩ := mulb b3 b 200000000 255 hb3 hb
  have ⟨pc1, qc1⟩ := mulb c1 r 200000000 255 hc1 hr
  have ⟨pc2, qc2⟩ := mulb c2 g 200000000 255 hc2 hg
  have ⟨pc3, qc3⟩ := mulb c3 b 200000000 255 hc3 hb
  simp only [Int.reduceMul, Int.reduceNeg] at pa1 pa2 pa3 pb1 pb2 pb3 pc1 pc2 pc3 qa1 qa2 qa3 qb1 qb2 qb3 qc1 qc2 qc3
  obtain ⟨hr1, hr2⟩ := hr
  obtain ⟨hg1, hg2⟩ := hg
  obtain ⟨hb1', hb2'⟩ := hb
  obtain ⟨ha41, ha42⟩ := ha4
  obtain ⟨hb41, hb42⟩ := hb4
  obtain ⟨hc41, hc42⟩ := hc4
  clear ha1 ha2 ha3 hb1 hb2 hb3 hc1 hc2 hc3
  go_enter Try.func30, Try.ntmps30
  go_wp2_with (first | (with_reducible refine wp_loop_rounds 4 ?_) | (with_reducible rw [rounds_succ]) | (go_at_call 41; refine (round_any _ _ _ (by omega) (by omega) (by omega) (by omega)).mono ?_; rintro e w' ⟨rfl, rfl⟩))
  go_quiet (fail)
  go_wp2
  refine bodyPost_ret (results_tmp4 rfl _ _ _) rfl ?_
  exact ⟨rfl, by repeat (first | exact Ext.refl _ | apply Ext.drew | apply Ext.drewN | apply Ext.alloc | refine Ext.setCell ?_ (by simp; omega) _)⟩

/-- The luminance and the two chrominances of a colour, and back. -/
def toY (r g b : Int) : Int := samp (rnd (19595 * r + 38470 * g + 7471 * b) 65536)
def toU (r g b : Int) : Int := samp (rnd (8388608 + -11059 * r + -21709 * g + 32768 * b) 65536)
def toV (r g b : Int) : Int := samp (rnd (8388608 + 32768 * r + -27439 * g + -5329 * b) 65536)
def fromR (y _u v : Int) : Int := samp (rnd (65536 * y + 91881 * v - 11760768) 65536)
def fromG (y u v : Int) : Int := samp (rnd (65536 * y + -22554 * u + -46802 * v + 8877568) 65536)
def fromB (y u _v : Int) : Int := samp (rnd (65536 * y + 116130 * u - 14864640) 65536)

theorem toY_b (r g b : Int) : 0 ≤ toY r g b ∧ toY r g b ≤ 255 := samp_bounds _
theorem toU_b (r g b : Int) : 0 ≤ toU r g b ∧ toU r g b ≤ 255 := samp_bounds _
theorem toV_b (r g b : Int) : 0 ≤ toV r g b ∧ toV r g b ≤ 255 := samp_bounds _
theorem tintTo_any (r g b : Int) (w : World) (hr : 0 ≤ r ∧ r ≤ 255) (hg : 0 ≤ g ∧ g ≤ 255) (hb : 0 ≤ b ∧ b ≤ 255) :
    Calls Try.prog 18 #[.int .i64 r, .int .i64 g, .int .i64 b] w fun e w' => e = .returned (.tuple #[.int .i64 (toY r g b), .int .i64 (toU r g b), .int .i64 (toV r g b), .int .i64 0]) ∧ Ext w w' := by
  go_enter Try.func18, Try.ntmps18
  go_wp2_with (go_at_call 30; refine (three_any 19595 38470 7471 0 (-11059) (-21709) 32768 8388608 32768 (-27439) (-5329) 8388608 r g b _ hr hg hb (by omega) (by omega) (by omega) (by omega) (by omega) (by omega) (by omega) (by omega) (by omega) (by omega) (by omega) (by omega)).mono ?_; rintro e w' ⟨rfl, hgr⟩)
  refine bodyPost_ret (results_tmp4 rfl _ _ _) rfl ?_
  refine ⟨ret_eq ?_, ?_⟩
  · simp only [toY, toU, toV]; rfl
  · exact (by repeat (first | exact Ext.refl _ | apply Ext.drew | apply Ext.drewN | apply Ext.alloc) : Ext w _).trans hgr
theorem tintFrom_any (r g b : Int) (w : World) (hr : 0 ≤ r ∧ r ≤ 255) (hg : 0 ≤ g ∧ g ≤ 255) (hb : 0 ≤ b ∧ b ≤ 255) :
    Calls Try.prog 24 #[.int .i64 r, .int .i64 g, .int .i64 b] w fun e w' => e = .returned (.tuple #[.int .i64 (fromR r g b), .int .i64 (fromG r g b), .int .i64 (fromB r g b), .int .i64 0]) ∧ Ext w w' := by
  go_enter Try.func24, Try.ntmps24
  go_wp2_with (go_at_call 30; refine (three_any 65536 0 91881 (-11760768) 65536 (-22554) (-46802) 8877568 65536 116130 0 (-14864640) r g b _ hr hg hb (by omega) (by omega) (by omega) (by omega) (by omega) (by omega) (by omega) (by omega) (by omega) (by omega) (by omega) (by omega)).mono ?_; rintro e w' ⟨rfl, hgr⟩)
  refine bodyPost_ret (results_tmp4 rfl _ _ _) rfl ?_
  refine ⟨ret_eq ?_, ?_⟩
  · have e1 : fromR r g b = samp (rnd (-11760768 + 65536 * r + 91881 * b) 65536) := by unfold fromR; congr 2; omega
    have e2 : fromG r g b = samp (rnd (8877568 + 65536 * r + -22554 * g + -46802 * b) 65536) := by unfold fromG; congr 2; omega
    have e3 : fromB r g b = samp (rnd (-14864640 + 65536 * r + 116130 * g) 65536) := by unfold fromB; congr 2; omega
    rw [e1, e2, e3]; rfl
  · exact (by repeat (first | exact Ext.refl _ | apply Ext.drew | apply Ext.drewN | apply Ext.alloc) : Ext w _).trans hgr
end Go.Proofs.Ytodihnhpibjhmaa
