/- What quantization down and up again does to a number; '==' and the zero block. -/
import Derived.Test.YtbihmbkkoidnbaaQuantKeep
import Derived.Test.YtbihmbkkoidnbaaDraw
import Derived.Test.YtbihmbkkoidnbaaTy
namespace Go.Proofs.Ytbihmbkkoidnbaa
open Go.RowKit
theorem arrLen {W w : World} {rs rs' : List Res} {g n : Nat} {l : List Int} (hS : St W w rs) (p : Pull (arr g n l) rs rs') : l.length = n := (hS.arr p).2
/-- Two blocks of ints compared. -/
theorem eqBlock (w : World) (l m : List Int) (hl : l.length = 64) (hm : m.length = 64) (r : Bool) (hr : (l == m) = r) : (Op.equalIn 10000 23 (.agg (iv l)) (.agg (iv m))).run Try.prog w = .ok r w := by
  rw [← hr]
  exact run_equalIn_iv (P := Try.prog) w 9998 23 3 64 Try.underlying23 Try.underlying3 (fun w => Try.sizeOf3 w) l m hl hm
def zb : List Int := List.replicate 64 0
theorem zb_len : Len zb 64 := List.length_replicate
/-- '==' of blocks, as an operation. -/
theorem wp_eqBlock {w : World} {Q : Exit → Act → World → Prop} {K : Act → World → Prop} {o : Oper} {a : Act} (x y : Operand) (u : TypeId) (ho : o.op = .binOp .eql 23 x y u) (l m : List Int) (hx : a.eval x = .agg (iv l)) (hy : a.eval y = .agg (iv m))
    (hl : Len l 64) (hm : Len m 64) (r : Bool) (hr : (l == m) = r) (h : K (a.put o.dst (.bool r)) w) : o.wp Try.prog a w K Q := by
  have hq := eqBlock w l m hl hm r hr
  unfold Oper.wp execOp
  rw [ho]
  simp only [hx, hy]
  simp [go_sem, hq]
  exact h
/-- The empty literal of a block. -/
theorem wp_build0 {w : World} {Q : Exit → Act → World → Prop} {K : Act → World → Prop} {o : Oper} {a : Act} (ho : o.op = .build 23 #[]) (h : K (a.put o.dst (.agg (iv zb))) w) : o.wp Try.prog a w K Q := by
  have hr : (execOp a.eval o).run Try.prog w = .ok (.value (.agg (iv zb))) w := by
    unfold execOp
    rw [ho]
    kernel_rfl
  unfold Oper.wp
  rw [hr]
  exact h
theorem zeros_rep : zeros = List.replicate 64 0 := rfl
theorem downE_cases (b q : List Int) : downE b q = 0 ∧ qOk q = true ∧ allIn b (-40000) 40000 = true ∧ downR b q = zip2 dn b q ∨ downE b q = 1 ∧ downR b q = zb := by
  unfold downE downR
  by_cases h : (qOk q && allIn b (-40000) 40000) = true
  · left; rw [if_pos h, if_pos h]; rw [Bool.and_eq_true] at h; exact ⟨rfl, h.1, h.2, rfl⟩
  · right; rw [if_neg h, if_neg h]; exact ⟨rfl, rfl⟩
theorem upE_cases (b q : List Int) : upE b q = 0 ∧ qOk q = true ∧ allIn b (-2047) 2047 = true ∧ upR b q = zip2 upF b q ∨ upE b q = 1 ∧ upR b q = zb := by
  unfold upE upR
  by_cases h : (qOk q && allIn b (-2047) 2047) = true
  · left; rw [if_pos h, if_pos h]; rw [Bool.and_eq_true] at h; exact ⟨rfl, h.1, h.2, rfl⟩
  · right; rw [if_neg h, if_neg h]; exact ⟨rfl, rfl⟩
theorem dn_in (n d : Int) : -2047 ≤ dn n d ∧ dn n d ≤ 2047 := by unfold dn; omega
theorem downR_in (b q : List Int) (hb : b.length = 64) (hq : q.length = 64) : allIn (zip2 dn b q) (-2047) 2047 = true := by
  rw [allIn_iff, zip2_len _ _ _ hb hq]
  intro i hi
  rw [zip2_get _ _ _ hb hq i hi]
  exact dn_in _ _
/-- Down and up again. -/
theorem near_spec (n d : Int) (hd : 1 ≤ d) (h0 : -40000 ≤ n) (h1 : n ≤ 40000) (h2 : n ≤ 2047 * d) (h3 : -2047 * d ≤ n) : 2 * max (n - upF (dn n d) d) (-(n - upF (dn n d) d)) ≤ d := by
  obtain ⟨s1, s2⟩ := rnd_spec n d hd
  have hr1 : rnd n d ≤ 2047 := by
    have := rnd_mono n (2047 * d) d hd h2
    have e : rnd (2047 * d) d = 2047 := by
      unfold rnd
      rw [if_neg (by omega)]
      rw [show 2 * (2047 * d) + d = d + (2 * d) * 2047 by rw [Int.mul_assoc, Int.mul_comm d 2047]; omega, Int.add_mul_ediv_left _ _ (by omega), Int.ediv_eq_zero_of_lt (by omega) (by omega)]
      omega
    omega
  have hr2 : -2047 ≤ rnd n d := by
    have := rnd_mono (-(2047 * d)) n d hd (by omega)
    rw [rnd_neg _ _ hd] at this
    have e : rnd (2047 * d) d = 2047 := by
      unfold rnd
      rw [if_neg (by omega)]
      rw [show 2 * (2047 * d) + d = d + (2 * d) * 2047 by rw [Int.mul_assoc, Int.mul_comm d 2047]; omega, Int.add_mul_ediv_left _ _ (by omega), Int.ediv_eq_zero_of_lt (by omega) (by omega)]
      omega
    omega
  have e1 : dn n d = rnd n d := by unfold dn; omega
  rw [e1]
  unfold upF
  rw [Int.mul_comm (rnd n d) d]
  generalize d * rnd n d = p at *
  omega
end Go.Proofs.Ytbihmbkkoidnbaa
