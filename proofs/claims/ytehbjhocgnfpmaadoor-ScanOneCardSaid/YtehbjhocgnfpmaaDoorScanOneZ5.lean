/- The law ScanOne: what its proof needs, part 5. -/
import Derived.Test.YtehbjhocgnfpmaaDoorScanOneZ4
import Derived.Lib.AppendZeros
import Derived.Laws.Cover3
/- The walks of slices.SortStableFunc over packs: insertion, rotation, SymMerge. -/
namespace Go.Proofs.YtehbjhocgnfpmaaDoor
set_option maxRecDepth 100000
open Go.RowKit
set_option linter.unusedVariables false
def cmpv (x y : Int) : Int := if x < y then -1 else if y < x then 1 else 0
theorem isNaN_any (w : World) (x : Int) : Calls Tryd.prog 102 #[.int .i64 x] w fun e w' => e = .returned (.bool false) ∧ Ext w w' := by
 have hS := St.start w
 go_enter Tryd.func102, Tryd.ntmps102
 repeat' (first
  | (refine y91 ?_) | (refine y992 ?_) | ((fail_if_success with_reducible refine ga9 ?_); go_step))
 all_goals go_ret
 all_goals exact ⟨by simp, hS.1⟩
theorem compare_any (w : World) (x y : Int) : Calls Tryd.prog 85 #[.int .i64 x, .int .i64 y] w fun e w' => e = .returned (.int .i64 (cmpv x y)) ∧ Ext w w' := by
 have hS := St.start w
 go_enter Tryd.func85, Tryd.ntmps85
 repeat' (first
  | ((with_reducible refine gt9 _ (.call ⟨.value (.func 102), _, _⟩) ?_); refine wpl_call (f := 102) Tryd.call102 kr9 ?_; refine ⟨_, (isNaN_any _ _), ?_⟩; rintro e w ⟨rfl, hE2⟩; replace hS := hS.ext hE2; clear hE2; refine ⟨_, rfl, ?_⟩; refine put_move ?_; go_step) | (refine y91 ?_) | (refine y990 ?_) | (refine y988 ?_) | ((fail_if_success with_reducible refine ga9 ?_); go_step))
 all_goals go_ret
 all_goals (refine ⟨?_, hS.1⟩; unfold cmpv; first | (rw [if_pos (by omega)]; rfl) | (rw [if_neg (by omega), if_pos (by omega)]; rfl) | (rw [if_neg (by omega), if_neg (by omega)]; rfl))
theorem byWeight_any (w : World) (p q : PkV) : Calls Tryd.prog 67 #[.agg (pkE p).toArray, .agg (pkE q).toArray] w fun e w' => e = .returned (.int .i64 (cmpv p.w q.w)) ∧ Ext w w' := by
 have hS := St.start w
 obtain ⟨x, ap, np, cp⟩ := p
 obtain ⟨y, aq, nq, cq⟩ := q
 simp only [pkE]
 go_enter Tryd.func67, Tryd.ntmps67
 repeat' (first
  | ((with_reducible refine gt9 _ (.call ⟨.value (.func 85), _, _⟩) ?_); refine wpl_call (f := 85) Tryd.call85 kr9 ?_; refine ⟨_, (compare_any _ _ _), ?_⟩; rintro e w ⟨rfl, hE2⟩; replace hS := hS.ext hE2; clear hE2; refine ⟨_, rfl, ?_⟩; refine put_move ?_; go_step) | (refine y92 ?_) | ((with_reducible refine gt9 _ (.fieldAddr 133 _ 0) ?_); (refine wvv9 (V.fieldAddr fo133_0 rfl nq9) ?_; go_step)) | ((with_reducible refine gs9 2 ?_); (refine wl9 ?_; apply wp_boxG (o := ⟨some 2, _, _, _, _, _⟩) hS 133 _ rfl _ rfl; clear hS; intro g2 w hS; refine put_move ?_; go_step)) | ((with_reducible refine gs9 3 ?_); (refine wl9 ?_; apply wp_boxG (o := ⟨some 3, _, _, _, _, _⟩) hS 133 _ rfl _ rfl; clear hS; intro g3 w hS; refine put_move ?_; go_step)) | (refine y9121 ?_) | ((fail_if_success with_reducible refine ga9 ?_); go_step))
 all_goals go_ret
 all_goals exact ⟨rfl, hS.1⟩
abbrev pks (g n c : Nat) (P : List PkV) : Res := own 133 2 (some ⟨g, 0, none⟩) n c (P.flatMap pkE)
theorem swapRange_any (W w0 : World) (rs rs' : List Res) (g n c a b k : Nat) (P : List PkV) (hS : St W w0 rs) (hp : Pull (pks g n c P) rs rs') (hab : a + k ≤ b) (hb : b + k ≤ n) (hn : n ≤ 1000000) (K : Value) :
 Calls Tryd.prog 112 #[.slice (some ⟨g, 0, none⟩) n c, .int .i64 a, .int .i64 b, .int .i64 k, K] w0 fun e w => e = .returned (.tuple #[]) ∧ ∃ Q, Swr a b k P Q ∧ St W w (pks g n c Q :: rs') := by
 replace hS := hS.pull hp
 have he := pkE_len
 have h1e := pkE_one
 have hPl := own_recs hS Pull.head pkE_len (by decide)
 go_enter Tryd.func112, Tryd.ntmps112
 repeat' (first
  | (refine y92 ?_) | ((fail_if_success with_reducible refine ga9 ?_); go_step))
 go_loopg [10] k (fun gk iv w => ∃ (i : Nat) (Q : List PkV), gk + i = k ∧ iv = .int .i64 i ∧ Swr a b i P Q ∧ St W w (pks g n c Q :: rs'))
 case atStart => exact ⟨0, P, by omega, rfl, Swr.refl a b P, hS⟩
 case round =>
  clear hS
  obtain ⟨i, Q, hi, rfl, hQ, hS⟩ := hrel
  by_cases hlt : i < k
  · have hQ2 := hQ.step (by omega) (by omega)
    have HQ := hid hQ2
    clear hQ hQ2
    repeat' (first
     | (refine y9146 ?_) | ((with_reducible refine gs9 13 ?_); (refine wvv9 (V.lss rfl rfl) ?_; go_step)) | ((fail_if_success with_reducible refine ga9 ?_); go_step))
    refine drawn_lit [21, 23] (fun w => St W w (pks g n c Q :: rs')) kr9 ?_
    replace hS := hS.drew
    focus
     refine takeM 0 _ al9 kr9 kr9 kr9 hq9 rfl ?_
     go_step
     refine takeM 1 _ al9 kr9 kr9 kr9 hq9 rfl ?_
     go_step
     refine takeM 2 _ al9 kr9 kr9 kr9 hq9 rfl ?_
     go_step
     (refine takeV 3 (.int _ (((a + i : Nat) : Int))) al9 kr9 kr9 kr9 hq9 (V.as (V.addI rfl rfl (by omega)) (by omega)) rfl ?_)
     go_step
     refine takeM 4 _ al9 kr9 kr9 kr9 hq9 rfl ?_
     go_step
     refine takeM 5 _ al9 kr9 kr9 kr9 hq9 rfl ?_
     go_step
     refine takeM 6 _ al9 kr9 kr9 kr9 hq9 rfl ?_
     go_step
     (refine takeV 7 (.int _ (((b + i : Nat) : Int))) al9 kr9 kr9 kr9 hq9 (V.as (V.addI rfl rfl (by omega)) (by omega)) rfl ?_)
     go_step
     refine takeM 8 _ al9 kr9 kr9 kr9 hq9 rfl ?_
     go_step
     refine takeM 9 _ al9 kr9 kr9 kr9 hq9 rfl ?_
     go_step
     refine takeM 10 _ al9 kr9 kr9 kr9 hq9 rfl ?_
     go_step
     (refine takeV 11 (.int _ (((b + i : Nat) : Int))) al9 kr9 kr9 kr9 hq9 (V.as (V.addI rfl rfl (by omega)) (by omega)) rfl ?_)
     go_step
     (refine takeV 12 _ al9 kr9 kr9 kr9 hq9 (V.indexSl Tryd.underlying134 isz133 rfl rfl isn9 (by omega) rfl nq9) rfl ?_)
     go_step
     apply takeS 13 al9 kr9 kr9 kr9 hq9 [20, 21, 22, 23] kr9 (hS.sub sb9)
     case hfr => intro w hS; ((refine wl9 ?_; apply wp_loadE hS 133 _ rfl _ _ rfl 2 (row_of rfl) _ _ _ _ _; (case hp => exact pl9); (case inst => infer_instance); (case he => with_reducible assumption); (case hq => exact rfl); (case hj => omega); refine put_move ?_; go_step)); refine wpList_nil ?_; exact ⟨rfl, rfl⟩
     case hd => rfl
     refine takeM 14 _ al9 kr9 kr9 kr9 hq9 rfl ?_
     go_step
     refine takeM 15 _ al9 kr9 kr9 kr9 hq9 rfl ?_
     go_step
     refine takeM 16 _ al9 kr9 kr9 kr9 hq9 rfl ?_
     go_step
     (refine takeV 17 (.int _ (((a + i : Nat) : Int))) al9 kr9 kr9 kr9 hq9 (V.as (V.addI rfl rfl (by omega)) (by omega)) rfl ?_)
     go_step
     (refine takeV 18 _ al9 kr9 kr9 kr9 hq9 (V.indexSl Tryd.underlying134 isz133 rfl rfl isn9 (by omega) rfl nq9) rfl ?_)
     go_step
     apply takeS 19 al9 kr9 kr9 kr9 hq9 [20, 21, 22, 23] kr9 (hS.sub sb9)
     case hfr => intro w hS; ((refine wl9 ?_; apply wp_loadE hS 133 _ rfl _ _ rfl 2 (row_of rfl) _ _ _ _ _; (case hp => exact pl9); (case inst => infer_instance); (case he => with_reducible assumption); (case hq => exact rfl); (case hj => omega); refine put_move ?_; go_step)); refine wpList_nil ?_; exact ⟨rfl, rfl⟩
     case hd => rfl
     (refine takeV 20 _ al9 kr9 kr9 kr9 hq9 (V.indexSl Tryd.underlying134 isz133 rfl rfl isn9 (by omega) rfl nq9) rfl ?_)
     go_step
     refine branch1 21 al9 rfl kr9 ?_
     (apply wp_storeE hS 133 _ _ rfl _ _ rfl 2 (row_of rfl) _ _ _ _ _; (case hp => exact pl9); (case inst => infer_instance); (case he => with_reducible assumption); (case hone => with_reducible assumption); (case hq => exact rfl); (case hj => omega); (case hy => exact rfl); (case hd => exact rfl); clear hS; intro w hS)
     refine ⟨fun h => absurd (by decide) h, ?_⟩
     (refine takeV 22 _ al9 kr9 kr9 kr9 hq9 (V.indexSl Tryd.underlying134 isz133 rfl rfl isn9 (by omega) rfl nq9) rfl ?_)
     go_step
     refine branch1 23 al9 rfl kr9 ?_
     (apply wp_storeE hS 133 _ _ rfl _ _ rfl 2 (row_of rfl) _ _ _ _ _; (case hp => exact pl9); (case inst => infer_instance); (case he => with_reducible assumption); (case hone => with_reducible assumption); (case hq => exact rfl); (case hj => omega); (case hy => exact rfl); (case hd => exact rfl); clear hS; intro w hS)
     refine ⟨fun h => absurd (by decide) h, ?_⟩
     refine drawn_done kr9 ?_ _
    repeat' (first
     | (refine y91 ?_) | ((with_reducible refine gs9 15 ?_); (refine wvv9 (V.addI rfl rfl (by omega)) ?_; go_step)) | ((fail_if_success with_reducible refine ga9 ?_); go_step))
    go_roundg (gk - 1)
    case measure => omega
    case rel => exact ⟨i + 1, swp Q (a + i) (b + i), by omega, by go_num, HQ.out, hS⟩
  · obtain rfl : i = k := by omega
    repeat' (first
     | (refine y9146 ?_) | ((with_reducible refine gs9 13 ?_); (refine wvv9 (V.lss rfl rfl) ?_; go_step)) | ((fail_if_success with_reducible refine ga9 ?_); go_step))
    go_end0
    exact ⟨rfl, Q, hQ, hS⟩
theorem rotate_any (W w0 : World) (rs rs' : List Res) (g n c a m b : Nat) (P : List PkV) (hS : St W w0 rs) (hp : Pull (pks g n c P) rs rs') (ham : a < m) (hmb : m < b) (hb : b ≤ n) (hn : n ≤ 1000000) (K : Value) :
 Calls Tryd.prog 109 #[.slice (some ⟨g, 0, none⟩) n c, .int .i64 a, .int .i64 m, .int .i64 b, K] w0 fun e w => e = .returned (.tuple #[]) ∧ ∃ Q, Rot a m b P Q ∧ St W w (pks g n c Q :: rs') := by
 replace hS := hS.pull hp
 have hPl := own_recs hS Pull.head pkE_len (by decide)
 obtain ⟨A0, U0, V0, B0, hP, hA0, hU0, hV0⟩ : ∃ A U Y B : List PkV, P = A ++ (U ++ (Y ++ B)) ∧ A.length = a ∧ U.length = m - a ∧ Y.length = b - m :=
  ⟨P.take a, (P.drop a).take (m - a), ((P.drop a).drop (m - a)).take (b - m), ((P.drop a).drop (m - a)).drop (b - m), by rw [List.take_append_drop, List.take_append_drop, List.take_append_drop], by simp; omega, by simp; omega, by simp; omega⟩
 have HG : Hid (∀ Q, Q = A0 ++ (V0 ++ (U0 ++ B0)) → Rot a m b P Q) := fun Q h => ⟨A0, U0, V0, B0, hP, h, hA0, hU0, hV0⟩
 obtain ⟨T, hT⟩ : ∃ T, A0 ++ (V0 ++ (U0 ++ B0)) = T := ⟨_, rfl⟩
 rw [hT] at HG
 rw [hP] at hS hPl
 clear hP hp
 go_enter Tryd.func109, Tryd.ntmps109
 repeat' (first
  | ((with_reducible refine gs9 14 ?_); (refine wplV (.int _ (((m - a : Nat) : Int))) (V.as (V.subI rfl rfl (by omega)) (by omega)) rfl ?_; go_step)) | ((with_reducible refine gs9 17 ?_); (refine wplV (.int _ (((b - m : Nat) : Int))) (V.as (V.subI rfl rfl (by omega)) (by omega)) rfl ?_; go_step)) | (refine y91 ?_) | ((fail_if_success with_reducible refine ga9 ?_); go_step))
 go_loopg [10, 11] (b - a) (fun gk iv jv w => ∃ (i j x : Nat) (A U Y B : List PkV), gk = i + j ∧ iv = .int .i64 i ∧ jv = .int .i64 j ∧ A.length = x ∧ U.length = i ∧ Y.length = j ∧ x + i = m ∧ m + j ≤ b ∧ 1 ≤ i ∧ 1 ≤ j ∧ A ++ (Y ++ (U ++ B)) = T ∧ St W w (pks g n c (A ++ (U ++ (Y ++ B))) :: rs'))
 case atStart => exact ⟨m - a, b - m, a, A0, U0, V0, B0, by omega, rfl, rfl, hA0, hU0, hV0, by omega, by omega, by omega, by omega, hT, hS⟩
 case round =>
  clear hS hT hU0 hV0 hA0 hPl
  obtain ⟨i, j, x, A, U, Y, B, hk, rfl, rfl, hA, hU, hV, hxm, hmj, hi1, hj1, hT, hS⟩ := hrel
  by_cases hij : i = j
  · skip
    repeat' (first
     | (refine y9146 ?_) | (refine y942 ?_) | ((fail_if_success with_reducible refine ga9 ?_); go_step))
    repeat' (first
     | ((with_reducible refine gs9 53 ?_); (refine wplV (.int _ (((x : Nat) : Int))) (V.as (V.subI rfl rfl (by omega)) (by omega)) rfl ?_; go_step)) | ((with_reducible refine gt9 _ (.call ⟨.value (.func 112), _, _⟩) ?_); refine wpl_call (f := 112) Tryd.call112 kr9 ?_; refine ⟨_, (swapRange_any W _ _ rs' g n c x m i _ hS Pull.head (by omega) (by omega) hn K), ?_⟩; rintro e w ⟨rfl, Q, hQ, hS2⟩; replace hS := hS2; clear hS2; refine ⟨_, rfl, ?_⟩; refine put_move ?_; go_step) | (refine y9146 ?_) | ((fail_if_success with_reducible refine ga9 ?_); go_step))
    go_end0
    refine ⟨rfl, Q, HG.out Q ?_, hS⟩
    rw [← hxm, ← hA] at hQ
    rw [hij] at hQ
    obtain ⟨U1, U2, e1, e2, e3, e4, e5⟩ := Rot.left (hij ▸ hU) hV (Nat.le_refl _) hQ
    have : U2 = [] := List.eq_nil_of_length_eq_zero (by omega)
    subst this
    rw [e4, ← hT, e5]
    simp
  · by_cases hlt : j < i
    · skip
      repeat' (first
       | (refine y9146 ?_) | (refine y942 ?_) | ((with_reducible refine gs9 23 ?_); (refine wvv9 (V.gtr rfl rfl) ?_; go_step)) | ((fail_if_success with_reducible refine ga9 ?_); go_step))
      repeat' (first
       | ((with_reducible refine gs9 27 ?_); (refine wplV (.int _ (((x : Nat) : Int))) (V.as (V.subI rfl rfl (by omega)) (by omega)) rfl ?_; go_step)) | ((with_reducible refine gs9 34 ?_); (refine wplV (.int _ (((i - j : Nat) : Int))) (V.as (V.subI rfl rfl (by omega)) (by omega)) rfl ?_; go_step)) | ((with_reducible refine gt9 _ (.call ⟨.value (.func 112), _, _⟩) ?_); refine wpl_call (f := 112) Tryd.call112 kr9 ?_; refine ⟨_, (swapRange_any W _ _ rs' g n c x m j _ hS Pull.head (by omega) (by omega) hn K), ?_⟩; rintro e w ⟨rfl, Q, hQ, hS2⟩; replace hS := hS2; clear hS2; refine ⟨_, rfl, ?_⟩; refine put_move ?_; go_step) | (refine y91 ?_) | ((fail_if_success with_reducible refine ga9 ?_); go_step))
      rw [← hxm, ← hA] at hQ
      obtain ⟨U1, U2, e1, e2, e3, e4, e5⟩ := Rot.left hU hV (by omega) hQ
      rw [e4] at hS
      rw [e5] at hT
      clear hQ e1 e4 e5
      go_roundg (gk - j)
      case measure => omega
      case rel => exact ⟨i - j, j, x + j, A ++ Y, U2, U1, B, by omega, rfl, rfl, by simp; omega, e3, e2, by omega, by omega, by omega, by omega, hT, hS⟩
    · skip
      repeat' (first
       | (refine y9146 ?_) | (refine y942 ?_) | ((with_reducible refine gs9 23 ?_); (refine wvv9 (V.gtr rfl rfl) ?_; go_step)) | ((fail_if_success with_reducible refine ga9 ?_); go_step))
      repeat' (first
       | ((with_reducible refine gs9 38 ?_); (refine wplV (.int _ (((x : Nat) : Int))) (V.as (V.subI rfl rfl (by omega)) (by omega)) rfl ?_; go_step)) | ((with_reducible refine gs9 43 ?_); (refine wplV (.int _ (((x + j : Nat) : Int))) (V.as (V.subI rfl rfl (by omega)) (by omega)) rfl ?_; go_step)) | ((with_reducible refine gs9 49 ?_); (refine wplV (.int _ (((j - i : Nat) : Int))) (V.as (V.subI rfl rfl (by omega)) (by omega)) rfl ?_; go_step)) | ((with_reducible refine gt9 _ (.call ⟨.value (.func 112), _, _⟩) ?_); refine wpl_call (f := 112) Tryd.call112 kr9 ?_; refine ⟨_, (swapRange_any W _ _ rs' g n c x (x + j) i _ hS Pull.head (by omega) (by omega) hn K), ?_⟩; rintro e w ⟨rfl, Q, hQ, hS2⟩; replace hS := hS2; clear hS2; refine ⟨_, rfl, ?_⟩; refine put_move ?_; go_step) | (refine y91 ?_) | ((with_reducible refine gs9 41 ?_); (refine wvv9 (V.addI rfl rfl (by omega)) ?_; go_step)) | ((fail_if_success with_reducible refine ga9 ?_); go_step))
      rw [← hA] at hQ
      obtain ⟨V1, V2, e1, e2, e3, e4, e5⟩ := Rot.right hU hV (by omega) hQ
      rw [e4] at hS
      rw [e5] at hT
      clear hQ e1 e4 e5
      go_roundg (gk - i)
      case measure => omega
      case rel => exact ⟨i, j - i, x, A, V2, V1, U ++ B, by omega, rfl, rfl, hA, e3, e2, by omega, by omega, by omega, by omega, hT, hS⟩
abbrev byW : Value := .func (.func 67) #[] #[]
abbrev wk (P : List PkV) (i : Nat) : Int := (elt P i).w
theorem cmpv_lt (x y : Int) : cmpv x y < 0 ↔ x < y := by unfold cmpv; constructor <;> intro h <;> (repeat' split at h) <;> (repeat' split) <;> omega
theorem insSort_any (W w0 : World) (rs rs' : List Res) (g n c a b : Nat) (P : List PkV) (hS : St W w0 rs) (hp : Pull (pks g n c P) rs rs') (hab : a ≤ b) (hb : b ≤ n) (hn : n ≤ 1000000) :
 Calls Tryd.prog 100 #[.slice (some ⟨g, 0, none⟩) n c, .int .i64 a, .int .i64 b, byW] w0 fun e w => e = .returned (.tuple #[]) ∧ ∃ Q, Asc PkV.w a b Q ∧ Rg a b P Q ∧ St W w (pks g n c Q :: rs') := by
 replace hS := hS.pull hp
 have he := pkE_len
 have h1e := pkE_one
 have hPl := own_recs hS Pull.head pkE_len (by decide)
 go_enter Tryd.func100, Tryd.ntmps100
 repeat' (first
  | ((with_reducible refine gs9 11 ?_); (refine wplV (.int _ (((a + 1 : Nat) : Int))) (V.as (V.addI rfl rfl (by omega)) (by omega)) rfl ?_; go_step)) | (refine y91 ?_) | ((fail_if_success with_reducible refine ga9 ?_); go_step))
 go_loopg [8] (b - a) (fun gk iv w => ∃ (i : Nat) (Q : List PkV), gk + i = b + 1 ∧ a < i ∧ iv = .int .i64 i ∧ Asc PkV.w a i Q ∧ Rg a b P Q ∧ St W w (pks g n c Q :: rs'))
 case atStart => exact ⟨a + 1, P, by omega, by omega, rfl, fun x y h1 h2 h3 => by rw [show x = y by omega]; exact Int.le_refl _, Rg.refl a b P, hS⟩
 case round =>
  clear hS
  obtain ⟨i, Q, hi, hai, rfl, hA, hR, hS⟩ := hrel
  by_cases hlt : i < b
  · obtain ⟨gk1, hgk1⟩ : ∃ x, x = gk := ⟨_, rfl⟩
    subst hgk1
    have hQl := hR.len
    have HA := hid hA
    have HR := hid hR
    clear hA hR
    repeat' (first
     | (refine y91 ?_) | ((with_reducible refine gs9 14 ?_); (refine wvv9 (V.lss rfl rfl) ?_; go_step)) | ((fail_if_success with_reducible refine ga9 ?_); go_step))
    repeat' (first
     | ((fail_if_success with_reducible refine ga9 ?_); go_step))
    go_loopg [9] (i - a) (fun gk jv w => ∃ (j : Nat) (Z : List PkV), gk + a = j ∧ j ≤ i ∧ jv = .int .i64 j ∧ Dn i j Q Z ∧ (j < i → wk Q i ≤ wk Q j) ∧ Rg a b P Z ∧ St W w (pks g n c Z :: rs'))
    case atStart => exact ⟨i, Q, by omega, by omega, rfl, Dn.refl i Q, fun h => by omega, HR.out, hS⟩
    case round =>
     clear hS
     obtain ⟨j, Z, hj, hji, rfl, hD, hhi, hR, hS⟩ := hrel
     by_cases hja : a < j
     · obtain ⟨q, rfl⟩ : ∃ q, j = q + 1 := ⟨j - 1, by omega⟩
       obtain ⟨v, hv⟩ : ∃ v, cmpv (elt Z (q + 1)).w (elt Z q).w = v := ⟨_, rfl⟩
       have hv2 := cmpv_lt (elt Z (q + 1)).w (elt Z q).w
       rw [hv] at hv2
       rw [hD.eq, hD.lo q (by omega)] at hv2
       have HV := hid hv
       have HV2 := hid hv2
       have HD := hid hD
       have HR2 := hid hR
       have HH := hid hhi
       clear hv hv2 hD hR hhi
       repeat' (first
        | ((fail_if_success with_reducible refine ga9 ?_); go_step))
       refine drawn_lit [14] (fun w => St W w (pks g n c Z :: rs')) kr9 ?_
       replace hS := hS.drew
       focus
        refine takeM 0 _ al9 kr9 kr9 kr9 hq9 rfl ?_
        go_step
        refine takeM 1 _ al9 kr9 kr9 kr9 hq9 rfl ?_
        go_step
        (refine takeD 2 _ al9 kr9 kr9 kr9 hq9 (V.gtr rfl rfl) rfl (fun hB => ?_) (fun hB => ?_))
        rotate_left 1
        focus
         (try (have hF : False := (by omega); cases hF))
         all_goals
          go_step
          refine takeM 3 _ al9 kr9 kr9 kr9 hq9 rfl ?_
          go_step
          refine takeN 4 al9 kr9 kr9 kr9 hq9 rfl ?_
          go_step
          refine takeN 5 al9 kr9 kr9 kr9 hq9 rfl ?_
          go_step
          refine takeN 6 al9 kr9 kr9 kr9 hq9 rfl ?_
          go_step
          refine takeN 7 al9 kr9 kr9 kr9 hq9 rfl ?_
          go_step
          refine takeN 8 al9 kr9 kr9 kr9 hq9 rfl ?_
          go_step
          refine takeN 9 al9 kr9 kr9 kr9 hq9 rfl ?_
          go_step
          refine takeN 10 al9 kr9 kr9 kr9 hq9 rfl ?_
          go_step
          refine takeN 11 al9 kr9 kr9 kr9 hq9 rfl ?_
          go_step
          refine takeN 12 al9 kr9 kr9 kr9 hq9 rfl ?_
          go_step
          refine takeN 13 al9 kr9 kr9 kr9 hq9 rfl ?_
          go_step
          refine takeN 14 al9 kr9 kr9 kr9 hq9 rfl ?_
          go_step
          refine takeN 15 al9 kr9 kr9 kr9 hq9 rfl ?_
          go_step
          refine takePickF 16 al9 kr9 kr9 kr9 hq9 rfl rfl ?_
          go_step
          refine drawn_done kr9 ?_ _
        rotate_right 1
        focus
         (try (have hF : False := (by omega); cases hF))
         all_goals
          go_step
          refine takeM 3 _ al9 kr9 kr9 kr9 hq9 rfl ?_
          go_step
          refine takeM 4 _ al9 kr9 kr9 kr9 hq9 rfl ?_
          go_step
          refine takeM 5 _ al9 kr9 kr9 kr9 hq9 rfl ?_
          go_step
          refine takeM 6 _ al9 kr9 kr9 kr9 hq9 rfl ?_
          go_step
          (refine takeV 7 _ al9 kr9 kr9 kr9 hq9 (V.indexSl Tryd.underlying134 isz133 rfl rfl isn9 (by omega) rfl nq9) rfl ?_)
          go_step
          apply takeS 8 al9 kr9 kr9 kr9 hq9 [14, 15, 16] kr9 (hS.sub sb9)
          case hfr => intro w hS; ((refine wl9 ?_; apply wp_loadE hS 133 _ rfl _ _ rfl 2 (row_of rfl) _ _ _ _ _; (case hp => exact pl9); (case inst => infer_instance); (case he => with_reducible assumption); (case hq => exact rfl); (case hj => omega); refine put_move ?_; go_step)); refine wpList_nil ?_; exact ⟨rfl, rfl⟩
          case hd => rfl
          refine takeM 9 _ al9 kr9 kr9 kr9 hq9 rfl ?_
          go_step
          refine takeM 10 _ al9 kr9 kr9 kr9 hq9 rfl ?_
          go_step
          (refine takeV 11 (.int _ (((q : Nat) : Int))) al9 kr9 kr9 kr9 hq9 (V.as (V.subI rfl rfl (by omega)) (by omega)) rfl ?_)
          go_step
          (refine takeV 12 _ al9 kr9 kr9 kr9 hq9 (V.indexSl Tryd.underlying134 isz133 rfl rfl isn9 (by omega) rfl nq9) rfl ?_)
          go_step
          apply takeS 13 al9 kr9 kr9 kr9 hq9 [14, 15, 16] kr9 (hS.sub sb9)
          case hfr => intro w hS; ((refine wl9 ?_; apply wp_loadE hS 133 _ rfl _ _ rfl 2 (row_of rfl) _ _ _ _ _; (case hp => exact pl9); (case inst => infer_instance); (case he => with_reducible assumption); (case hq => exact rfl); (case hj => omega); refine put_move ?_; go_step)); refine wpList_nil ?_; exact ⟨rfl, rfl⟩
          case hd => rfl
          refine branch1 14 al9 rfl kr9 ?_
          refine wp_callV (f := 67) rfl rfl Tryd.call67 (byWeight_any _ (elt Z (q + 1)) (elt Z q)) ?_; rintro e w ⟨rfl, hE⟩; replace hS := hS.ext hE; clear hE; rw [HV.out]; refine ⟨_, rfl, ?_⟩
          refine ⟨fun h => absurd (by decide) h, ?_⟩
          refine drawn_move ?_
          go_step
          (refine takeV 15 _ al9 kr9 kr9 kr9 hq9 (V.lss rfl rfl) rfl ?_)
          go_step
          refine takePickT 16 al9 kr9 kr9 kr9 hq9 rfl rfl ?_
          go_step
          refine drawn_done kr9 ?_ _
       by_cases hc : v < 0
       · skip
         repeat' (first
          | ((fail_if_success with_reducible refine ga9 ?_); go_step))
         refine drawn_lit [15, 17] (fun w => St W w (pks g n c Z :: rs')) kr9 ?_
         replace hS := hS.drew
         focus
          refine takeM 0 _ al9 kr9 kr9 kr9 hq9 rfl ?_
          go_step
          refine takeM 1 _ al9 kr9 kr9 kr9 hq9 rfl ?_
          go_step
          refine takeM 2 _ al9 kr9 kr9 kr9 hq9 rfl ?_
          go_step
          refine takeM 3 _ al9 kr9 kr9 kr9 hq9 rfl ?_
          go_step
          (refine takeV 4 (.int _ (((q : Nat) : Int))) al9 kr9 kr9 kr9 hq9 (V.as (V.subI rfl rfl (by omega)) (by omega)) rfl ?_)
          go_step
          refine takeM 5 _ al9 kr9 kr9 kr9 hq9 rfl ?_
          go_step
          refine takeM 6 _ al9 kr9 kr9 kr9 hq9 rfl ?_
          go_step
          (refine takeV 7 (.int _ (((q : Nat) : Int))) al9 kr9 kr9 kr9 hq9 (V.as (V.subI rfl rfl (by omega)) (by omega)) rfl ?_)
          go_step
          (refine takeV 8 _ al9 kr9 kr9 kr9 hq9 (V.indexSl Tryd.underlying134 isz133 rfl rfl isn9 (by omega) rfl nq9) rfl ?_)
          go_step
          apply takeS 9 al9 kr9 kr9 kr9 hq9 [14, 15, 16, 17] kr9 (hS.sub sb9)
          case hfr => intro w hS; ((refine wl9 ?_; apply wp_loadE hS 133 _ rfl _ _ rfl 2 (row_of rfl) _ _ _ _ _; (case hp => exact pl9); (case inst => infer_instance); (case he => with_reducible assumption); (case hq => exact rfl); (case hj => omega); refine put_move ?_; go_step)); refine wpList_nil ?_; exact ⟨rfl, rfl⟩
          case hd => rfl
          refine takeM 10 _ al9 kr9 kr9 kr9 hq9 rfl ?_
          go_step
          refine takeM 11 _ al9 kr9 kr9 kr9 hq9 rfl ?_
          go_step
          (refine takeV 12 _ al9 kr9 kr9 kr9 hq9 (V.indexSl Tryd.underlying134 isz133 rfl rfl isn9 (by omega) rfl nq9) rfl ?_)
          go_step
          apply takeS 13 al9 kr9 kr9 kr9 hq9 [14, 15, 16, 17] kr9 (hS.sub sb9)
          case hfr => intro w hS; ((refine wl9 ?_; apply wp_loadE hS 133 _ rfl _ _ rfl 2 (row_of rfl) _ _ _ _ _; (case hp => exact pl9); (case inst => infer_instance); (case he => with_reducible assumption); (case hq => exact rfl); (case hj => omega); refine put_move ?_; go_step)); refine wpList_nil ?_; exact ⟨rfl, rfl⟩
          case hd => rfl
          (refine takeV 14 _ al9 kr9 kr9 kr9 hq9 (V.indexSl Tryd.underlying134 isz133 rfl rfl isn9 (by omega) rfl nq9) rfl ?_)
          go_step
          refine branch1 15 al9 rfl kr9 ?_
          (apply wp_storeE hS 133 _ _ rfl _ _ rfl 2 (row_of rfl) _ _ _ _ _; (case hp => exact pl9); (case inst => infer_instance); (case he => with_reducible assumption); (case hone => with_reducible assumption); (case hq => exact rfl); (case hj => omega); (case hy => exact rfl); (case hd => exact rfl); clear hS; intro w hS)
          refine ⟨fun h => absurd (by decide) h, ?_⟩
          (refine takeV 16 _ al9 kr9 kr9 kr9 hq9 (V.indexSl Tryd.underlying134 isz133 rfl rfl isn9 (by omega) rfl nq9) rfl ?_)
          go_step
          refine branch1 17 al9 rfl kr9 ?_
          (apply wp_storeE hS 133 _ _ rfl _ _ rfl 2 (row_of rfl) _ _ _ _ _; (case hp => exact pl9); (case inst => infer_instance); (case he => with_reducible assumption); (case hone => with_reducible assumption); (case hq => exact rfl); (case hj => omega); (case hy => exact rfl); (case hd => exact rfl); clear hS; intro w hS)
          refine ⟨fun h => absurd (by decide) h, ?_⟩
          refine drawn_done kr9 ?_ _
         repeat' (first
          | ((with_reducible refine gs9 36 ?_); (refine wplV (.int _ (((q : Nat) : Int))) (V.as (V.subI rfl rfl (by omega)) (by omega)) rfl ?_; go_step)) | (refine y91 ?_) | ((fail_if_success with_reducible refine ga9 ?_); go_step))
         go_roundg (gk - 1)
         case measure => omega
         case rel => exact ⟨q, swp Z (q + 1) q, by omega, by omega, by go_num, HD.out.step (by omega) (by omega) (by omega), fun _ => by have := HV2.out.1 hc; exact Int.le_of_lt this, HR2.out.trans (swp_mid _ _ _ _ _ (by omega) (by omega) (by omega) (by omega) (by rw [HR2.out.len]; omega)), hS⟩
       · skip
         repeat' (first
          | (refine y933 ?_) | (refine y91 ?_) | ((fail_if_success with_reducible refine ga9 ?_); go_step))
         go_roundg (gk1 - 1)
         case measure => omega
         case rel =>
          refine ⟨i + 1, Z, by omega, by omega, by go_num, HD.out.asc HA.out (by omega) (by omega) (fun _ => ?_) (fun _ => HH.out (by omega)), HR2.out, hS⟩
          have := HV2.out
          show (elt Q (q + 1 - 1)).w ≤ (elt Q i).w
          rw [Nat.add_sub_cancel]
          omega
     · obtain rfl : j = a := by omega
       repeat' (first
        | ((fail_if_success with_reducible refine ga9 ?_); go_step))
       refine drawn_lit [14] (fun w => St W w (pks g n c Z :: rs')) kr9 ?_
       replace hS := hS.drew
       focus
        refine takeM 0 _ al9 kr9 kr9 kr9 hq9 rfl ?_
        go_step
        refine takeM 1 _ al9 kr9 kr9 kr9 hq9 rfl ?_
        go_step
        (refine takeD 2 _ al9 kr9 kr9 kr9 hq9 (V.gtr rfl rfl) rfl (fun hB => ?_) (fun hB => ?_))
        rotate_left 1
        focus
         (try (have hF : False := (by omega); cases hF))
         all_goals
          go_step
          refine takeM 3 _ al9 kr9 kr9 kr9 hq9 rfl ?_
          go_step
          refine takeN 4 al9 kr9 kr9 kr9 hq9 rfl ?_
          go_step
          refine takeN 5 al9 kr9 kr9 kr9 hq9 rfl ?_
          go_step
          refine takeN 6 al9 kr9 kr9 kr9 hq9 rfl ?_
          go_step
          refine takeN 7 al9 kr9 kr9 kr9 hq9 rfl ?_
          go_step
          refine takeN 8 al9 kr9 kr9 kr9 hq9 rfl ?_
          go_step
          refine takeN 9 al9 kr9 kr9 kr9 hq9 rfl ?_
          go_step
          refine takeN 10 al9 kr9 kr9 kr9 hq9 rfl ?_
          go_step
          refine takeN 11 al9 kr9 kr9 kr9 hq9 rfl ?_
          go_step
          refine takeN 12 al9 kr9 kr9 kr9 hq9 rfl ?_
          go_step
          refine takeN 13 al9 kr9 kr9 kr9 hq9 rfl ?_
          go_step
          refine takeN 14 al9 kr9 kr9 kr9 hq9 rfl ?_
          go_step
          refine takeN 15 al9 kr9 kr9 kr9 hq9 rfl ?_
          go_step
          refine takePickF 16 al9 kr9 kr9 kr9 hq9 rfl rfl ?_
          go_step
          refine drawn_done kr9 ?_ _
        rotate_right 1
        focus
         (try (have hF : False := (by omega); cases hF))
         all_goals
          go_step
          refine takeM 3 _ al9 kr9 kr9 kr9 hq9 rfl ?_
          go_step
          refine takeM 4 _ al9 kr9 kr9 kr9 hq9 rfl ?_
          go_step
          refine takeM 5 _ al9 kr9 kr9 kr9 hq9 rfl ?_
          go_step
          refine takeM 6 _ al9 kr9 kr9 kr9 hq9 rfl ?_
          go_step
          first | (refine takeV 7 _ al9 kr9 kr9 kr9 hq9 (V.indexSl Tryd.underlying134 isz133 rfl rfl isn9 (by omega) rfl nq9) rfl ?_)
          go_step
          apply takeS 8 al9 kr9 kr9 kr9 hq9 [14, 15, 16] kr9 (hS.sub sb9)
          case hfr => intro w hS; (first | (refine wl9 ?_; apply wp_loadE hS 133 _ rfl _ _ rfl 2 (row_of rfl) _ _ _ _ _; (case hp => exact pl9); (case inst => infer_instance); (case he => with_reducible assumption); (case hq => exact rfl); (case hj => omega); refine put_move ?_; go_step) | (refine wl9 ?_; apply wp_loadA hS 133 _ rfl _ rfl 2 (row_of rfl) _; (case hp => exact pl9); refine put_move ?_; go_step) | (refine wl9 ?_; apply wp_loadG hS 133 _ rfl _ rfl 2 (row_of rfl) _; (case hp => exact pl9); (case hn => rfl); refine put_move ?_; go_step) | (refine wl9 ?_; apply wp_loadRW hS 133 _ rfl _ _ rfl 2 (row_of rfl) _; (case hc => with_reducible assumption); (case hn => rfl); refine put_move ?_; go_step)); refine wpList_nil ?_; exact ⟨rfl, rfl⟩
          case hd => rfl
          refine takeM 9 _ al9 kr9 kr9 kr9 hq9 rfl ?_
          go_step
          refine takeM 10 _ al9 kr9 kr9 kr9 hq9 rfl ?_
          go_step
          first | (refine takeV 11 _ al9 kr9 kr9 kr9 hq9 (V.subI rfl rfl (by omega)) rfl ?_) | (refine takeV 11 _ al9 kr9 kr9 kr9 hq9 (V.subR (by decide) rfl rfl) rfl ?_)
          go_step
          first | (refine takeV 12 _ al9 kr9 kr9 kr9 hq9 (V.indexSl Tryd.underlying134 isz133 rfl rfl isn9 (by omega) rfl nq9) rfl ?_)
          go_step
          apply takeS 13 al9 kr9 kr9 kr9 hq9 [14, 15, 16] kr9 (hS.sub sb9)
          case hfr => intro w hS; (first | (refine wl9 ?_; apply wp_loadE hS 133 _ rfl _ _ rfl 2 (row_of rfl) _ _ _ _ _; (case hp => exact pl9); (case inst => infer_instance); (case he => with_reducible assumption); (case hq => exact rfl); (case hj => omega); refine put_move ?_; go_step) | (refine wl9 ?_; apply wp_loadA hS 133 _ rfl _ rfl 2 (row_of rfl) _; (case hp => exact pl9); refine put_move ?_; go_step) | (refine wl9 ?_; apply wp_loadG hS 133 _ rfl _ rfl 2 (row_of rfl) _; (case hp => exact pl9); (case hn => rfl); refine put_move ?_; go_step) | (refine wl9 ?_; apply wp_loadRW hS 133 _ rfl _ _ rfl 2 (row_of rfl) _; (case hc => with_reducible assumption); (case hn => rfl); refine put_move ?_; go_step)); refine wpList_nil ?_; exact ⟨rfl, rfl⟩
          case hd => rfl
          refine branch1 14 al9 rfl kr9 ?_
          fail "no law: Op.call { callee := Callee.value (Operand.tmp 22), args := #"
          refine ⟨fun h => absurd (by decide) h, ?_⟩
          refine drawn_move ?_
          go_step
          first | (refine takeV 15 _ al9 kr9 kr9 kr9 hq9 (V.lss rfl rfl) rfl ?_)
          go_step
          refine takePickT 16 al9 kr9 kr9 kr9 hq9 rfl rfl ?_
          go_step
          refine drawn_done kr9 ?_ _
       repeat' (first
        | (refine y933 ?_) | (refine y91 ?_) | ((fail_if_success with_reducible refine ga9 ?_); go_step))
       go_roundg (gk1 - 1)
       case measure => omega
       case rel => exact ⟨i + 1, Z, by omega, by omega, by go_num, hD.asc HA.out (by omega) (by omega) (fun _ => by omega) (fun _ => hhi (by omega)), hR, hS⟩
  · skip
    repeat' (first
     | (refine y9146 ?_) | ((with_reducible refine gs9 14 ?_); (refine wvv9 (V.lss rfl rfl) ?_; go_step)) | ((fail_if_success with_reducible refine ga9 ?_); go_step))
    go_end0
    exact ⟨rfl, Q, hA.sub (Nat.le_refl _) (by omega), hR, hS⟩

set_option maxRecDepth 100000
open Go.RowKit
set_option linter.unusedVariables false
set_option maxRecDepth 100000 in
set_option maxHeartbeats 8000000 in
theorem symMerge_any (N : Nat) : ∀ (W w0 : World) (rs rs' : List Res) (g n c a m b : Nat) (P : List PkV), b - a ≤ N → St W w0 rs → Pull (pks g n c P) rs rs' → a < m → m < b → b ≤ n → n ≤ 1000000 → Asc PkV.w a m P → Asc PkV.w m b P →
 Calls Tryd.prog 101 #[.slice (some ⟨g, 0, none⟩) n c, .int .i64 a, .int .i64 m, .int .i64 b, byW] w0 fun e w => e = .returned (.tuple #[]) ∧ ∃ Q, Asc PkV.w a b Q ∧ Rg a b P Q ∧ St W w (pks g n c Q :: rs') := by
 induction N with
 | zero => intro W w0 rs rs' g n c a m b P hN; omega
 | succ N ih =>
 intro W w0 rs rs' g n c a m b P hN hS hp ham hmb hb hn hA1 hA2
 replace hS := hS.pull hp
 have he := pkE_len
 have h1e := pkE_one
 have hPl := own_recs hS Pull.head pkE_len (by decide)
 have IH := hid ih
 have HA1 := hid hA1
 have HA2 := hid hA2
 clear ih hA1 hA2
 by_cases h1 : m - a = 1
 · obtain rfl : m = a + 1 := by omega
   go_enter Tryd.func101, Tryd.ntmps101
   repeat' (first
    | ((with_reducible refine gs9 27 ?_); (refine wplV (.int _ (1)) (V.as (V.subI rfl rfl (by omega)) (by omega)) rfl ?_; go_step)) | (refine y91 ?_) | (refine y953 ?_) | ((fail_if_success with_reducible refine ga9 ?_); go_step))
   go_loopg [10, 11] (b - (a + 1)) (fun gk iv jv w => ∃ (i j : Nat), gk + i = j ∧ a + 1 ≤ i ∧ j ≤ b ∧ iv = .int .i64 i ∧ jv = .int .i64 j ∧ (∀ x, a + 1 ≤ x → x < i → wk P x ≤ wk P a) ∧ (∀ x, j ≤ x → x < b → wk P a ≤ wk P x) ∧ St W w (pks g n c P :: rs'))
   case atStart => exact ⟨a + 1, b, by omega, by omega, by omega, rfl, rfl, fun x h1 h2 => by omega, fun x h1 h2 => by omega, hS⟩
   case round =>
    clear hS
    obtain ⟨i, j, hk, hi, hj, rfl, rfl, hlo, hhi, hS⟩ := hrel
    have HLO := hid hlo
    have HHI := hid hhi
    clear hlo hhi
    by_cases hlt : i < j
    · obtain ⟨h, hh⟩ : ∃ h, h = (i + j) / 2 := ⟨_, rfl⟩
      obtain ⟨v, hv⟩ : ∃ v, cmpv (elt P h).w (elt P a).w = v := ⟨_, rfl⟩
      have hv2 := cmpv_lt (elt P h).w (elt P a).w
      rw [hv] at hv2
      have HV := hid hv
      have HV2 := hid hv2
      clear hv hv2
      repeat' (first
       | ((with_reducible refine gs9 36 ?_); (refine wplV (.int _ (((i + j : Nat) : Int))) (V.as (V.addI rfl rfl (by omega)) (by omega)) rfl ?_; go_step)) | ((with_reducible refine gs9 38 ?_); (refine wplV (.int _ (((h : Nat) : Int))) (V.as (V.shr rfl rfl isn9 (by omega) rfl) (by omega)) rfl ?_; go_step)) | (refine y91 ?_) | ((with_reducible refine gs9 33 ?_); (refine wvv9 (V.lss rfl rfl) ?_; go_step)) | ((with_reducible refine gs9 37 ?_); (refine wvv9 (V.convI (by rw [Tryd.underlying3]; rfl) Tryd.underlying147 rfl (IntWalk.u64_in _ (by omega))) ?_; go_step)) | ((with_reducible refine gs9 39 ?_); (refine wvv9 (V.convI (by rw [Tryd.underlying147]; rfl) Tryd.underlying3 rfl (IntWalk.i64_in _ (by omega))) ?_; go_step)) | ((fail_if_success with_reducible refine ga9 ?_); go_step))
      refine drawn_lit [9] (fun w => St W w (pks g n c P :: rs')) kr9 ?_
      replace hS := hS.drew
      focus
       refine takeM 0 _ al9 kr9 kr9 kr9 hq9 rfl ?_
       go_step
       refine takeM 1 _ al9 kr9 kr9 kr9 hq9 rfl ?_
       go_step
       refine takeM 2 _ al9 kr9 kr9 kr9 hq9 rfl ?_
       go_step
       (refine takeV 3 _ al9 kr9 kr9 kr9 hq9 (V.indexSl Tryd.underlying134 isz133 rfl rfl isn9 (by omega) rfl nq9) rfl ?_)
       go_step
       apply takeS 4 al9 kr9 kr9 kr9 hq9 [9, 10] kr9 (hS.sub sb9)
       case hfr => intro w hS; ((refine wl9 ?_; apply wp_loadE hS 133 _ rfl _ _ rfl 2 (row_of rfl) _ _ _ _ _; (case hp => exact pl9); (case inst => infer_instance); (case he => with_reducible assumption); (case hq => exact rfl); (case hj => omega); refine put_move ?_; go_step)); refine wpList_nil ?_; exact ⟨rfl, rfl⟩
       case hd => rfl
       refine takeM 5 _ al9 kr9 kr9 kr9 hq9 rfl ?_
       go_step
       refine takeM 6 _ al9 kr9 kr9 kr9 hq9 rfl ?_
       go_step
       (refine takeV 7 _ al9 kr9 kr9 kr9 hq9 (V.indexSl Tryd.underlying134 isz133 rfl rfl isn9 (by omega) rfl nq9) rfl ?_)
       go_step
       apply takeS 8 al9 kr9 kr9 kr9 hq9 [9, 10] kr9 (hS.sub sb9)
       case hfr => intro w hS; ((refine wl9 ?_; apply wp_loadE hS 133 _ rfl _ _ rfl 2 (row_of rfl) _ _ _ _ _; (case hp => exact pl9); (case inst => infer_instance); (case he => with_reducible assumption); (case hq => exact rfl); (case hj => omega); refine put_move ?_; go_step)); refine wpList_nil ?_; exact ⟨rfl, rfl⟩
       case hd => rfl
       refine branch1 9 al9 rfl kr9 ?_
       refine wp_callV (f := 67) rfl rfl Tryd.call67 (byWeight_any _ (elt P h) (elt P a)) ?_; rintro e w ⟨rfl, hE⟩; replace hS := hS.ext hE; clear hE; rw [HV.out]; refine ⟨_, rfl, ?_⟩
       refine ⟨fun h => absurd (by decide) h, ?_⟩
       refine drawn_move ?_
       go_step
       (refine takeV 10 _ al9 kr9 kr9 kr9 hq9 (V.lss rfl rfl) rfl ?_)
       go_step
       refine drawn_done kr9 ?_ _
      by_cases hc : v < 0
      · skip
        repeat' (first
         | ((with_reducible refine gs9 52 ?_); (refine wplV (.int _ (((h + 1 : Nat) : Int))) (V.as (V.addI rfl rfl (by omega)) (by omega)) rfl ?_; go_step)) | (refine y91 ?_) | ((fail_if_success with_reducible refine ga9 ?_); go_step))
        go_roundg (j - (h + 1))
        case measure => omega
        case rel =>
         refine ⟨h + 1, j, by omega, by omega, by omega, by go_num, rfl, fun x k1 k2 => ?_, HHI.out, hS⟩
         have := HA2.out x h k1 (by omega) (by omega)
         have := HV2.out.1 hc
         show (elt P x).w ≤ (elt P a).w
         omega
      · skip
        repeat' (first
         | (refine y91 ?_) | ((fail_if_success with_reducible refine ga9 ?_); go_step))
        go_roundg (h - i)
        case measure => omega
        case rel =>
         refine ⟨i, h, by omega, by omega, by omega, rfl, by go_num, HLO.out, fun x k1 k2 => ?_, hS⟩
         have := HA2.out h x (by omega) k1 (by omega)
         have := HV2.out
         show (elt P a).w ≤ (elt P x).w
         omega
    · obtain rfl : i = j := by omega
      obtain ⟨p, rfl⟩ : ∃ p, i = p + 1 := ⟨i - 1, by omega⟩
      repeat' (first
       | (refine y91 ?_) | ((with_reducible refine gs9 33 ?_); (refine wvv9 (V.lss rfl rfl) ?_; go_step)) | ((fail_if_success with_reducible refine ga9 ?_); go_step))
      repeat' (first
       | ((fail_if_success with_reducible refine ga9 ?_); go_step))
      go_loopg [13] (p - a) (fun gk kv w => ∃ (k : Nat) (Q : List PkV), gk + k = p ∧ a ≤ k ∧ kv = .int .i64 k ∧ Upw a k P Q ∧ Rg a b P Q ∧ St W w (pks g n c Q :: rs'))
      case atStart => exact ⟨a, P, by omega, by omega, rfl, Upw.refl a P, Rg.refl a b P, hS⟩
      case round =>
       clear hS
       obtain ⟨k, Q, hk2, hak, rfl, hU, hR, hS⟩ := hrel
       have HU := hid hU
       have HR := hid hR
       clear hU hR
       by_cases hlt2 : k < p
       · skip
         repeat' (first
          | ((with_reducible refine gs9 57 ?_); (refine wplV (.int _ (((p : Nat) : Int))) (V.as (V.subI rfl rfl (by omega)) (by omega)) rfl ?_; go_step)) | (refine y9146 ?_) | ((with_reducible refine gs9 58 ?_); (refine wvv9 (V.lss rfl rfl) ?_; go_step)) | ((fail_if_success with_reducible refine ga9 ?_); go_step))
         refine drawn_lit [15, 17] (fun w => St W w (pks g n c Q :: rs')) kr9 ?_
         replace hS := hS.drew
         focus
          refine takeM 0 _ al9 kr9 kr9 kr9 hq9 rfl ?_
          go_step
          refine takeM 1 _ al9 kr9 kr9 kr9 hq9 rfl ?_
          go_step
          refine takeM 2 _ al9 kr9 kr9 kr9 hq9 rfl ?_
          go_step
          refine takeM 3 _ al9 kr9 kr9 kr9 hq9 rfl ?_
          go_step
          (refine takeV 4 (.int _ (((k + 1 : Nat) : Int))) al9 kr9 kr9 kr9 hq9 (V.as (V.addI rfl rfl (by omega)) (by omega)) rfl ?_)
          go_step
          refine takeM 5 _ al9 kr9 kr9 kr9 hq9 rfl ?_
          go_step
          refine takeM 6 _ al9 kr9 kr9 kr9 hq9 rfl ?_
          go_step
          (refine takeV 7 (.int _ (((k + 1 : Nat) : Int))) al9 kr9 kr9 kr9 hq9 (V.as (V.addI rfl rfl (by omega)) (by omega)) rfl ?_)
          go_step
          (refine takeV 8 _ al9 kr9 kr9 kr9 hq9 (V.indexSl Tryd.underlying134 isz133 rfl rfl isn9 (by omega) rfl nq9) rfl ?_)
          go_step
          apply takeS 9 al9 kr9 kr9 kr9 hq9 [14, 15, 16, 17] kr9 (hS.sub sb9)
          case hfr => intro w hS; ((refine wl9 ?_; apply wp_loadE hS 133 _ rfl _ _ rfl 2 (row_of rfl) _ _ _ _ _; (case hp => exact pl9); (case inst => infer_instance); (case he => with_reducible assumption); (case hq => exact rfl); (case hj => omega); refine put_move ?_; go_step)); refine wpList_nil ?_; exact ⟨rfl, rfl⟩
          case hd => rfl
          refine takeM 10 _ al9 kr9 kr9 kr9 hq9 rfl ?_
          go_step
          refine takeM 11 _ al9 kr9 kr9 kr9 hq9 rfl ?_
          go_step
          (refine takeV 12 _ al9 kr9 kr9 kr9 hq9 (V.indexSl Tryd.underlying134 isz133 rfl rfl isn9 (by omega) rfl nq9) rfl ?_)
          go_step
          apply takeS 13 al9 kr9 kr9 kr9 hq9 [14, 15, 16, 17] kr9 (hS.sub sb9)
          case hfr => intro w hS; ((refine wl9 ?_; apply wp_loadE hS 133 _ rfl _ _ rfl 2 (row_of rfl) _ _ _ _ _; (case hp => exact pl9); (case inst => infer_instance); (case he => with_reducible assumption); (case hq => exact rfl); (case hj => omega); refine put_move ?_; go_step)); refine wpList_nil ?_; exact ⟨rfl, rfl⟩
          case hd => rfl
          (refine takeV 14 _ al9 kr9 kr9 kr9 hq9 (V.indexSl Tryd.underlying134 isz133 rfl rfl isn9 (by omega) rfl nq9) rfl ?_)
          go_step
          refine branch1 15 al9 rfl kr9 ?_
          (apply wp_storeE hS 133 _ _ rfl _ _ rfl 2 (row_of rfl) _ _ _ _ _; (case hp => exact pl9); (case inst => infer_instance); (case he => with_reducible assumption); (case hone => with_reducible assumption); (case hq => exact rfl); (case hj => omega); (case hy => exact rfl); (case hd => exact rfl); clear hS; intro w hS)
          refine ⟨fun h => absurd (by decide) h, ?_⟩
          (refine takeV 16 _ al9 kr9 kr9 kr9 hq9 (V.indexSl Tryd.underlying134 isz133 rfl rfl isn9 (by omega) rfl nq9) rfl ?_)
          go_step
          refine branch1 17 al9 rfl kr9 ?_
          (apply wp_storeE hS 133 _ _ rfl _ _ rfl 2 (row_of rfl) _ _ _ _ _; (case hp => exact pl9); (case inst => infer_instance); (case he => with_reducible assumption); (case hone => with_reducible assumption); (case hq => exact rfl); (case hj => omega); (case hy => exact rfl); (case hd => exact rfl); clear hS; intro w hS)
          refine ⟨fun h => absurd (by decide) h, ?_⟩
          refine drawn_done kr9 ?_ _
         repeat' (first
          | ((with_reducible refine gs9 60 ?_); (refine wplV (.int _ (((k + 1 : Nat) : Int))) (V.as (V.addI rfl rfl (by omega)) (by omega)) rfl ?_; go_step)) | (refine y91 ?_) | ((fail_if_success with_reducible refine ga9 ?_); go_step))
         go_roundg (gk - 1)
         case measure => omega
         case rel => exact ⟨k + 1, swp Q k (k + 1), by omega, by omega, by go_num, HU.out.step (by omega) (by omega), HR.out.trans (swp_mid _ _ _ _ _ (by omega) (by omega) (by omega) (by omega) (by rw [HR.out.len]; omega)), hS⟩
       · obtain rfl : k = p := by omega
         repeat' (first
          | ((with_reducible refine gs9 57 ?_); (refine wplV (.int _ (((k : Nat) : Int))) (V.as (V.subI rfl rfl (by omega)) (by omega)) rfl ?_; go_step)) | (refine y9146 ?_) | ((with_reducible refine gs9 58 ?_); (refine wvv9 (V.lss rfl rfl) ?_; go_step)) | ((fail_if_success with_reducible refine ga9 ?_); go_step))
         refine bodyPost_ret (results_none rfl _ _ _) rfl ?_
         refine ⟨rfl, Q, HU.out.asc HA2.out hak (by omega) (fun h => HLO.out k (by omega) (by omega)) (fun h => HHI.out (k + 1) (Nat.le_refl _) h), HR.out, hS⟩
 · by_cases h2 : b - m = 1
   · obtain rfl : b = m + 1 := by omega
     go_enter Tryd.func101, Tryd.ntmps101
     repeat' (first
      | ((with_reducible refine gs9 27 ?_); (refine wplV (.int _ (((m - a : Nat) : Int))) (V.as (V.subI rfl rfl (by omega)) (by omega)) rfl ?_; go_step)) | (refine y9146 ?_) | (refine y953 ?_) | ((fail_if_success with_reducible refine ga9 ?_); go_step))
     repeat' (first
      | ((with_reducible refine gs9 79 ?_); (refine wplV (.int _ (1)) (V.as (V.subI rfl rfl (by omega)) (by omega)) rfl ?_; go_step)) | (refine y91 ?_) | ((with_reducible refine gs9 80 ?_); (refine wvv9 (V.eql rfl rfl) ?_; go_step)) | ((fail_if_success with_reducible refine ga9 ?_); go_step))
     go_loopg [14, 15] (m - a) (fun gk iv jv w => ∃ (i j : Nat), gk + i = j ∧ a ≤ i ∧ j ≤ m ∧ iv = .int .i64 i ∧ jv = .int .i64 j ∧ (∀ x, a ≤ x → x < i → wk P x ≤ wk P m) ∧ (∀ x, j ≤ x → x < m → wk P m ≤ wk P x) ∧ St W w (pks g n c P :: rs'))
     case atStart => exact ⟨a, m, by omega, by omega, by omega, rfl, rfl, fun x h1 h2 => by omega, fun x h1 h2 => by omega, hS⟩
     case round =>
      clear hS
      obtain ⟨i, j, hk, hi, hj, rfl, rfl, hlo, hhi, hS⟩ := hrel
      have HLO := hid hlo
      have HHI := hid hhi
      clear hlo hhi
      by_cases hlt : i < j
      · obtain ⟨h, hh⟩ : ∃ h, h = (i + j) / 2 := ⟨_, rfl⟩
        obtain ⟨v, hv⟩ : ∃ v, cmpv (elt P m).w (elt P h).w = v := ⟨_, rfl⟩
        have hv2 := cmpv_lt (elt P m).w (elt P h).w
        rw [hv] at hv2
        have HV := hid hv
        have HV2 := hid hv2
        clear hv hv2
        repeat' (first
         | ((with_reducible refine gs9 88 ?_); (refine wplV (.int _ (((i + j : Nat) : Int))) (V.as (V.addI rfl rfl (by omega)) (by omega)) rfl ?_; go_step)) | ((with_reducible refine gs9 90 ?_); (refine wplV (.int _ (((h : Nat) : Int))) (V.as (V.shr rfl rfl isn9 (by omega) rfl) (by omega)) rfl ?_; go_step)) | (refine y91 ?_) | ((with_reducible refine gs9 85 ?_); (refine wvv9 (V.lss rfl rfl) ?_; go_step)) | ((with_reducible refine gs9 89 ?_); (refine wvv9 (V.convI (by rw [Tryd.underlying3]; rfl) Tryd.underlying147 rfl (IntWalk.u64_in _ (by omega))) ?_; go_step)) | ((with_reducible refine gs9 91 ?_); (refine wvv9 (V.convI (by rw [Tryd.underlying147]; rfl) Tryd.underlying3 rfl (IntWalk.i64_in _ (by omega))) ?_; go_step)) | ((fail_if_success with_reducible refine ga9 ?_); go_step))
        refine drawn_lit [9] (fun w => St W w (pks g n c P :: rs')) kr9 ?_
        replace hS := hS.drew
        focus
         refine takeM 0 _ al9 kr9 kr9 kr9 hq9 rfl ?_
         go_step
         refine takeM 1 _ al9 kr9 kr9 kr9 hq9 rfl ?_
         go_step
         refine takeM 2 _ al9 kr9 kr9 kr9 hq9 rfl ?_
         go_step
         (refine takeV 3 _ al9 kr9 kr9 kr9 hq9 (V.indexSl Tryd.underlying134 isz133 rfl rfl isn9 (by omega) rfl nq9) rfl ?_)
         go_step
         apply takeS 4 al9 kr9 kr9 kr9 hq9 [9, 10, 11] kr9 (hS.sub sb9)
         case hfr => intro w hS; ((refine wl9 ?_; apply wp_loadE hS 133 _ rfl _ _ rfl 2 (row_of rfl) _ _ _ _ _; (case hp => exact pl9); (case inst => infer_instance); (case he => with_reducible assumption); (case hq => exact rfl); (case hj => omega); refine put_move ?_; go_step)); refine wpList_nil ?_; exact ⟨rfl, rfl⟩
         case hd => rfl
         refine takeM 5 _ al9 kr9 kr9 kr9 hq9 rfl ?_
         go_step
         refine takeM 6 _ al9 kr9 kr9 kr9 hq9 rfl ?_
         go_step
         (refine takeV 7 _ al9 kr9 kr9 kr9 hq9 (V.indexSl Tryd.underlying134 isz133 rfl rfl isn9 (by omega) rfl nq9) rfl ?_)
         go_step
         apply takeS 8 al9 kr9 kr9 kr9 hq9 [9, 10, 11] kr9 (hS.sub sb9)
         case hfr => intro w hS; ((refine wl9 ?_; apply wp_loadE hS 133 _ rfl _ _ rfl 2 (row_of rfl) _ _ _ _ _; (case hp => exact pl9); (case inst => infer_instance); (case he => with_reducible assumption); (case hq => exact rfl); (case hj => omega); refine put_move ?_; go_step)); refine wpList_nil ?_; exact ⟨rfl, rfl⟩
         case hd => rfl
         refine branch1 9 al9 rfl kr9 ?_
         refine wp_callV (f := 67) rfl rfl Tryd.call67 (byWeight_any _ (elt P m) (elt P h)) ?_; rintro e w ⟨rfl, hE⟩; replace hS := hS.ext hE; clear hE; rw [HV.out]; refine ⟨_, rfl, ?_⟩
         refine ⟨fun h => absurd (by decide) h, ?_⟩
         refine drawn_move ?_
         go_step
         (refine takeV 10 _ al9 kr9 kr9 kr9 hq9 (V.lss rfl rfl) rfl ?_)
         go_step
         (refine takeV 11 _ al9 kr9 kr9 kr9 hq9 (V.notD rfl) rfl ?_)
         go_step
         refine drawn_done kr9 ?_ _
        by_cases hc : v < 0
        · skip
          repeat' (first
           | (refine y91 ?_) | ((fail_if_success with_reducible refine ga9 ?_); go_step))
          go_roundg (h - i)
          case measure => omega
          case rel =>
           refine ⟨i, h, by omega, by omega, by omega, rfl, by go_num, HLO.out, fun x k1 k2 => ?_, hS⟩
           have := HA1.out h x (by omega) k1 (by omega)
           have := HV2.out.1 hc
           show (elt P m).w ≤ (elt P x).w
           omega
        · skip
          repeat' (first
           | ((with_reducible refine gs9 105 ?_); (refine wplV (.int _ (((h + 1 : Nat) : Int))) (V.as (V.addI rfl rfl (by omega)) (by omega)) rfl ?_; go_step)) | (refine y91 ?_) | ((fail_if_success with_reducible refine ga9 ?_); go_step))
          go_roundg (j - (h + 1))
          case measure => omega
          case rel =>
           refine ⟨h + 1, j, by omega, by omega, by omega, by go_num, rfl, fun x k1 k2 => ?_, HHI.out, hS⟩
           have := HA1.out x h k1 (by omega) (by omega)
           have := HV2.out
           show (elt P x).w ≤ (elt P m).w
           omega
      · obtain rfl : i = j := by omega
        repeat' (first
         | (refine y91 ?_) | ((with_reducible refine gs9 85 ?_); (refine wvv9 (V.lss rfl rfl) ?_; go_step)) | ((fail_if_success with_reducible refine ga9 ?_); go_step))
        repeat' (first
         | ((fail_if_success with_reducible refine ga9 ?_); go_step))
        go_loopg [17] (m - i) (fun gk kv w => ∃ (k : Nat) (Q : List PkV), gk + i = k ∧ k ≤ m ∧ kv = .int .i64 k ∧ Dn m k P Q ∧ Rg a (m + 1) P Q ∧ St W w (pks g n c Q :: rs'))
        case atStart => exact ⟨m, P, by omega, by omega, rfl, Dn.refl m P, Rg.refl a _ P, hS⟩
        case round =>
         clear hS
         obtain ⟨k, Q, hk2, hkm, rfl, hU, hR, hS⟩ := hrel
         have HU := hid hU
         have HR := hid hR
         clear hU hR
         by_cases hlt2 : i < k
         · obtain ⟨q, rfl⟩ : ∃ q, k = q + 1 := ⟨k - 1, by omega⟩
           repeat' (first
            | (refine y9146 ?_) | ((with_reducible refine gs9 110 ?_); (refine wvv9 (V.gtr rfl rfl) ?_; go_step)) | ((fail_if_success with_reducible refine ga9 ?_); go_step))
           refine drawn_lit [15, 17] (fun w => St W w (pks g n c Q :: rs')) kr9 ?_
           replace hS := hS.drew
           focus
            refine takeM 0 _ al9 kr9 kr9 kr9 hq9 rfl ?_
            go_step
            refine takeM 1 _ al9 kr9 kr9 kr9 hq9 rfl ?_
            go_step
            refine takeM 2 _ al9 kr9 kr9 kr9 hq9 rfl ?_
            go_step
            refine takeM 3 _ al9 kr9 kr9 kr9 hq9 rfl ?_
            go_step
            (refine takeV 4 (.int _ (((q : Nat) : Int))) al9 kr9 kr9 kr9 hq9 (V.as (V.subI rfl rfl (by omega)) (by omega)) rfl ?_)
            go_step
            refine takeM 5 _ al9 kr9 kr9 kr9 hq9 rfl ?_
            go_step
            refine takeM 6 _ al9 kr9 kr9 kr9 hq9 rfl ?_
            go_step
            (refine takeV 7 (.int _ (((q : Nat) : Int))) al9 kr9 kr9 kr9 hq9 (V.as (V.subI rfl rfl (by omega)) (by omega)) rfl ?_)
            go_step
            (refine takeV 8 _ al9 kr9 kr9 kr9 hq9 (V.indexSl Tryd.underlying134 isz133 rfl rfl isn9 (by omega) rfl nq9) rfl ?_)
            go_step
            apply takeS 9 al9 kr9 kr9 kr9 hq9 [14, 15, 16, 17] kr9 (hS.sub sb9)
            case hfr => intro w hS; ((refine wl9 ?_; apply wp_loadE hS 133 _ rfl _ _ rfl 2 (row_of rfl) _ _ _ _ _; (case hp => exact pl9); (case inst => infer_instance); (case he => with_reducible assumption); (case hq => exact rfl); (case hj => omega); refine put_move ?_; go_step)); refine wpList_nil ?_; exact ⟨rfl, rfl⟩
            case hd => rfl
            refine takeM 10 _ al9 kr9 kr9 kr9 hq9 rfl ?_
            go_step
            refine takeM 11 _ al9 kr9 kr9 kr9 hq9 rfl ?_
            go_step
            (refine takeV 12 _ al9 kr9 kr9 kr9 hq9 (V.indexSl Tryd.underlying134 isz133 rfl rfl isn9 (by omega) rfl nq9) rfl ?_)
            go_step
            apply takeS 13 al9 kr9 kr9 kr9 hq9 [14, 15, 16, 17] kr9 (hS.sub sb9)
            case hfr => intro w hS; ((refine wl9 ?_; apply wp_loadE hS 133 _ rfl _ _ rfl 2 (row_of rfl) _ _ _ _ _; (case hp => exact pl9); (case inst => infer_instance); (case he => with_reducible assumption); (case hq => exact rfl); (case hj => omega); refine put_move ?_; go_step)); refine wpList_nil ?_; exact ⟨rfl, rfl⟩
            case hd => rfl
            (refine takeV 14 _ al9 kr9 kr9 kr9 hq9 (V.indexSl Tryd.underlying134 isz133 rfl rfl isn9 (by omega) rfl nq9) rfl ?_)
            go_step
            refine branch1 15 al9 rfl kr9 ?_
            (apply wp_storeE hS 133 _ _ rfl _ _ rfl 2 (row_of rfl) _ _ _ _ _; (case hp => exact pl9); (case inst => infer_instance); (case he => with_reducible assumption); (case hone => with_reducible assumption); (case hq => exact rfl); (case hj => omega); (case hy => exact rfl); (case hd => exact rfl); clear hS; intro w hS)
            refine ⟨fun h => absurd (by decide) h, ?_⟩
            (refine takeV 16 _ al9 kr9 kr9 kr9 hq9 (V.indexSl Tryd.underlying134 isz133 rfl rfl isn9 (by omega) rfl nq9) rfl ?_)
            go_step
            refine branch1 17 al9 rfl kr9 ?_
            (apply wp_storeE hS 133 _ _ rfl _ _ rfl 2 (row_of rfl) _ _ _ _ _; (case hp => exact pl9); (case inst => infer_instance); (case he => with_reducible assumption); (case hone => with_reducible assumption); (case hq => exact rfl); (case hj => omega); (case hy => exact rfl); (case hd => exact rfl); clear hS; intro w hS)
            refine ⟨fun h => absurd (by decide) h, ?_⟩
            refine drawn_done kr9 ?_ _
           repeat' (first
            | ((with_reducible refine gs9 112 ?_); (refine wplV (.int _ (((q : Nat) : Int))) (V.as (V.subI rfl rfl (by omega)) (by omega)) rfl ?_; go_step)) | (refine y91 ?_) | ((fail_if_success with_reducible refine ga9 ?_); go_step))
           go_roundg (gk - 1)
           case measure => omega
           case rel => exact ⟨q, swp Q (q + 1) q, by omega, by omega, by go_num, HU.out.step (by omega) (by omega) (by omega), HR.out.trans (swp_mid _ _ _ _ _ (by omega) (by omega) (by omega) (by omega) (by rw [HR.out.len]; omega)), hS⟩
         · obtain rfl : k = i := by omega
           repeat' (first
            | (refine y9146 ?_) | ((with_reducible refine gs9 110 ?_); (refine wvv9 (V.gtr rfl rfl) ?_; go_step)) | ((fail_if_success with_reducible refine ga9 ?_); go_step))
           refine bodyPost_ret (results_none rfl _ _ _) rfl ?_
           refine ⟨rfl, Q, HU.out.asc HA1.out hi (by omega) (fun h => HLO.out (k - 1) (by omega) (by omega)) (fun h => HHI.out k (Nat.le_refl _) h), HR.out, hS⟩
   · obtain ⟨mid, hmid⟩ : ∃ mid, mid = (a + b) / 2 := ⟨_, rfl⟩
     obtain ⟨T, hT⟩ : ∃ T, T = mid + m := ⟨_, rfl⟩
     obtain ⟨s0, hs0⟩ : ∃ s0, s0 = if mid < m then T - b else a := ⟨_, rfl⟩
     obtain ⟨r0, hr0⟩ : ∃ r0, r0 = if mid < m then mid else m := ⟨_, rfl⟩
     have hs0a : mid < m → s0 = T - b := fun h => by rw [hs0, if_pos h]
     have hs0b : ¬ mid < m → s0 = a := fun h => by rw [hs0, if_neg h]
     have hr0a : mid < m → r0 = mid := fun h => by rw [hr0, if_pos h]
     have hr0b : ¬ mid < m → r0 = m := fun h => by rw [hr0, if_neg h]
     clear hs0 hr0
     have hF : s0 ≤ r0 ∧ a ≤ s0 ∧ r0 ≤ mid ∧ r0 ≤ m ∧ (∀ st, s0 ≤ st → st ≤ r0 → m ≤ T - st ∧ T - st ≤ b ∧ st ≤ T) := by
      by_cases hc : mid < m
      · have := hs0a hc; have := hr0a hc
        exact ⟨by omega, by omega, by omega, by omega, fun st k1 k2 => by omega⟩
      · have := hs0b hc; have := hr0b hc
        exact ⟨by omega, by omega, by omega, by omega, fun st k1 k2 => by omega⟩
     obtain ⟨f1, f2, f3, f4, f5⟩ := hF
     have F5 := hid f5
     clear f5
     have HS0a := hid hs0a
     have HS0b := hid hs0b
     have HR0a := hid hr0a
     have HR0b := hid hr0b
     clear hs0a hs0b hr0a hr0b
     obtain ⟨d1, hd1⟩ : ∃ d, d = m - a := ⟨_, rfl⟩
     obtain ⟨d2, hd2⟩ : ∃ d, d = b - m := ⟨_, rfl⟩
     go_enter Tryd.func101, Tryd.ntmps101
     repeat' (first
      | ((with_reducible refine gs9 27 ?_); (refine wplV (.int _ (((d1 : Nat) : Int))) (V.as (V.subI rfl rfl (by omega)) (by omega)) rfl ?_; go_step)) | (refine y9146 ?_) | (refine y953 ?_) | ((fail_if_success with_reducible refine ga9 ?_); go_step))
     repeat' (first
      | ((with_reducible refine gs9 79 ?_); (refine wplV (.int _ (((d2 : Nat) : Int))) (V.as (V.subI rfl rfl (by omega)) (by omega)) rfl ?_; go_step)) | (refine y9146 ?_) | ((with_reducible refine gs9 80 ?_); (refine wvv9 (V.eql rfl rfl) ?_; go_step)) | ((fail_if_success with_reducible refine ga9 ?_); go_step))
     have h1' : a + 2 ≤ m := by omega
     have h2' : m + 2 ≤ b := by omega
     clear h1 h2 hd1 hd2
     by_cases hc : mid < m
     · have e1 := HS0a.out hc
       have e2 := HR0a.out hc
       repeat' (first
        | (refine y918 ?_) | (refine y921 ?_) | (refine y923 ?_) | ((with_reducible refine gs9 143 ?_); (refine wplV (.int _ (((s0 : Nat) : Int))) (V.as (V.subI rfl rfl (by omega)) (by omega)) rfl ?_; go_step)) | (refine y91 ?_) | (refine y920 ?_) | (refine y922 ?_) | ((with_reducible refine gs9 140 ?_); (refine wvv9 (V.gtr rfl rfl) ?_; go_step)) | ((fail_if_success with_reducible refine ga9 ?_); go_step))
       repeat' (first
        | (refine y926 ?_) | (refine y92 ?_) | ((fail_if_success with_reducible refine ga9 ?_); go_step))
       go_loopg [20, 21] (r0 - s0) (fun gk iv jv w => ∃ (st r : Nat), gk + st = r ∧ s0 ≤ st ∧ r ≤ r0 ∧ iv = .int .i64 st ∧ jv = .int .i64 r ∧ (s0 < st → wk P (st - 1) ≤ wk P (T - st)) ∧ (r < r0 → wk P (T - 1 - r) ≤ wk P r) ∧ St W w (pks g n c P :: rs'))
       case atStart => exact ⟨s0, r0, by omega, by omega, by omega, by first | rfl | rw [e1], by first | rfl | rw [e2], fun h => by omega, fun h => by omega, hS⟩
       case round =>
        clear hS
        obtain ⟨st, r, hk, hst, hr, rfl, rfl, hlo, hhi, hS⟩ := hrel
        have HLO := hid hlo
        have HHI := hid hhi
        clear hlo hhi
        have f5 := F5.out st hst (by omega)
        by_cases hlt : st < r
        · obtain ⟨h, hh⟩ : ∃ h, h = (st + r) / 2 := ⟨_, rfl⟩
          obtain ⟨y, hy⟩ : ∃ y, y = T - 1 - h := ⟨_, rfl⟩
          have f6 := F5.out (h + 1) (by omega) (by omega)
          obtain ⟨v, hv⟩ : ∃ v, cmpv (elt P y).w (elt P h).w = v := ⟨_, rfl⟩
          have hv2 := cmpv_lt (elt P y).w (elt P h).w
          rw [hv] at hv2
          have HV := hid hv
          have HV2 := hid hv2
          clear hv hv2
          repeat' (first
           | (refine y929 ?_) | (refine y931 ?_) | (refine y91 ?_) | (refine y928 ?_) | (refine y930 ?_) | (refine y932 ?_) | ((fail_if_success with_reducible refine ga9 ?_); go_step))
          refine drawn_lit [11] (fun w => St W w (pks g n c P :: rs')) kr9 ?_
          replace hS := hS.drew
          focus
           refine takeM 0 _ al9 kr9 kr9 kr9 hq9 rfl ?_
           go_step
           refine takeM 1 _ al9 kr9 kr9 kr9 hq9 rfl ?_
           go_step
           refine takeM 2 _ al9 kr9 kr9 kr9 hq9 rfl ?_
           go_step
           refine takeM 3 _ al9 kr9 kr9 kr9 hq9 rfl ?_
           go_step
           (refine takeV 4 (.int _ (((y : Nat) : Int))) al9 kr9 kr9 kr9 hq9 (V.as (V.subI rfl rfl (by omega)) (by omega)) rfl ?_)
           go_step
           (refine takeV 5 _ al9 kr9 kr9 kr9 hq9 (V.indexSl Tryd.underlying134 isz133 rfl rfl isn9 (by omega) rfl nq9) rfl ?_)
           go_step
           apply takeS 6 al9 kr9 kr9 kr9 hq9 [11, 12, 13] kr9 (hS.sub sb9)
           case hfr => intro w hS; ((refine wl9 ?_; apply wp_loadE hS 133 _ rfl _ _ rfl 2 (row_of rfl) _ _ _ _ _; (case hp => exact pl9); (case inst => infer_instance); (case he => with_reducible assumption); (case hq => exact rfl); (case hj => omega); refine put_move ?_; go_step)); refine wpList_nil ?_; exact ⟨rfl, rfl⟩
           case hd => rfl
           refine takeM 7 _ al9 kr9 kr9 kr9 hq9 rfl ?_
           go_step
           refine takeM 8 _ al9 kr9 kr9 kr9 hq9 rfl ?_
           go_step
           (refine takeV 9 _ al9 kr9 kr9 kr9 hq9 (V.indexSl Tryd.underlying134 isz133 rfl rfl isn9 (by omega) rfl nq9) rfl ?_)
           go_step
           apply takeS 10 al9 kr9 kr9 kr9 hq9 [11, 12, 13] kr9 (hS.sub sb9)
           case hfr => intro w hS; ((refine wl9 ?_; apply wp_loadE hS 133 _ rfl _ _ rfl 2 (row_of rfl) _ _ _ _ _; (case hp => exact pl9); (case inst => infer_instance); (case he => with_reducible assumption); (case hq => exact rfl); (case hj => omega); refine put_move ?_; go_step)); refine wpList_nil ?_; exact ⟨rfl, rfl⟩
           case hd => rfl
           refine branch1 11 al9 rfl kr9 ?_
           refine wp_callV (f := 67) rfl rfl Tryd.call67 (byWeight_any _ (elt P y) (elt P h)) ?_; rintro e w ⟨rfl, hE⟩; replace hS := hS.ext hE; clear hE; rw [HV.out]; refine ⟨_, rfl, ?_⟩
           refine ⟨fun h => absurd (by decide) h, ?_⟩
           refine drawn_move ?_
           go_step
           (refine takeV 12 _ al9 kr9 kr9 kr9 hq9 (V.lss rfl rfl) rfl ?_)
           go_step
           (refine takeV 13 _ al9 kr9 kr9 kr9 hq9 (V.notD rfl) rfl ?_)
           go_step
           refine drawn_done kr9 ?_ _
          by_cases hc2 : v < 0
          · skip
            repeat' (first
             | (refine y91 ?_) | ((fail_if_success with_reducible refine ga9 ?_); go_step))
            go_roundg (h - st)
            case measure => omega
            case rel =>
             refine ⟨st, h, by omega, by omega, by omega, rfl, by go_num, HLO.out, fun k1 => ?_, hS⟩
             have := HV2.out.1 hc2
             rw [← hy]
             exact Int.le_of_lt this
          · skip
            repeat' (first
             | (refine y936 ?_) | (refine y91 ?_) | ((fail_if_success with_reducible refine ga9 ?_); go_step))
            go_roundg (r - (h + 1))
            case measure => omega
            case rel =>
             refine ⟨h + 1, r, by omega, by omega, by omega, by go_num, rfl, fun k1 => ?_, HHI.out, hS⟩
             have := HV2.out
             rw [show T - (h + 1) = y by omega, Nat.add_sub_cancel]
             show (elt P h).w ≤ (elt P y).w
             omega
        · obtain rfl : st = r := by omega
          obtain ⟨en, hen⟩ : ∃ en, en = T - st := ⟨_, rfl⟩
          have HLO2 : Hid (a < st → m ≤ en → en < b → wk P (st - 1) ≤ wk P en) := fun k1 k2 k3 => by
           rw [hen]; exact HLO.out (by omega)
          have HHI2 : Hid (m < en → st < m → wk P (en - 1) ≤ wk P st) := fun k1 k2 => by
           rw [show en - 1 = T - 1 - st by omega]; exact HHI.out (by omega)
          clear HLO HHI
          repeat' (first
           | (refine y9146 ?_) | (refine y928 ?_) | ((fail_if_success with_reducible refine ga9 ?_); go_step))
          by_cases hrot : st < m ∧ m < en
          · have hrot1 := hrot.1
            have hrot2 := hrot.2
            repeat' (first
             | (refine y937 ?_) | ((with_reducible refine gt9 _ (.call ⟨.value (.func 109), _, _⟩) ?_); refine wpl_call (f := 109) Tryd.call109 kr9 ?_; refine ⟨_, (rotate_any W _ _ rs' g n c st m en P hS Pull.head hrot1 hrot2 (by omega) hn byW), ?_⟩; rintro e w ⟨rfl, Q, hQ, hS2⟩; replace hS := hS2; clear hS2; refine ⟨_, rfl, ?_⟩; refine put_move ?_; go_step) | (refine y91 ?_) | (refine y9140 ?_) | ((with_reducible refine gs9 180 ?_); (refine wplD _ (V.lss rfl rfl) kr9 (fun hB => ?_) (fun hB => ?_) <;> (try (have hF : False := (by omega); cases hF)) <;> go_step)) | (refine y938 ?_) | ((fail_if_success with_reducible refine ga9 ?_); go_step))
            obtain ⟨s1, s2, s3, s4, hx⟩ := sym_parts HA1.out HA2.out ham hmb hmid (show en = mid + m - st by omega) (by omega) (by omega) (by omega) (by omega) (by omega) HLO2.out HHI2.out hQ
            have hQr := hQ.rg (show st ≤ m by omega) (show m ≤ en by omega)
            have hQl := hQr.len
            have HQR := hid (hQr.wide (show a ≤ st by omega) (show en ≤ b by omega) (by omega) (by omega))
            have HX := hid hx
            have S1 := hid s1
            have S2 := hid s2
            have S3 := hid s3
            have S4 := hid s4
            have g1 : a ≤ st := by omega
            have g2 : st ≤ mid := by omega
            have g3 : mid ≤ en := by omega
            have g4 : en ≤ b := by omega
            have g5 : mid - a ≤ N := by omega
            have g6 : b - mid ≤ N := by omega
            have g7 : a < mid := by omega
            have g8 : mid < b := by omega
            have hQn : Q.length = n := by omega
            clear hx s1 s2 s3 s4 hQ hQr HLO2 HHI2 HA1 HA2 F5 HS0a HS0b HR0a HR0b hen hlt hk hst hr f5 f1 f2 f3 f4 hT hmid e1 e2 hc h1' h2' hN hrot hQl hPl hp ham hmb
            by_cases hl : a < st ∧ st < mid
            · obtain ⟨hl1, hl2⟩ := hl
              have hb2 : mid ≤ n := by omega
              have HC := hid (fun (w : World) (hS : St W w (pks g n c Q :: rs')) => IH.out W w (pks g n c Q :: rs') rs' g n c a st mid Q g5 hS Pull.head hl1 hl2 hb2 hn S1.out S2.out)
              repeat' (first
               | ((with_reducible refine gt9 _ (.call ⟨.value (.func 101), _, _⟩) ?_); refine wpl_call (f := 101) Tryd.call101 kr9 ?_; refine ⟨_, (HC.out _ hS), ?_⟩; rintro e w ⟨rfl, R, hR1, hR2, hS2⟩; replace hS := hS2; clear hS2; refine ⟨_, rfl, ?_⟩; refine put_move ?_; go_step) | (refine y9146 ?_) | (refine y9140 ?_) | ((with_reducible refine gs9 194 ?_); (refine wplD _ (V.lss rfl rfl) kr9 (fun hB => ?_) (fun hB => ?_) <;> (try (have hF : False := (by omega); cases hF)) <;> go_step)) | (refine y940 ?_) | ((fail_if_success with_reducible refine ga9 ?_); go_step))
              have S5 := hid (S3.out.same (Q := R) fun x k1 k2 => hR2.out x (by omega))
              have S6 := hid (S4.out.same (Q := R) fun x k1 k2 => hR2.out x (by omega))
              have R1 := hid hR1
              have R2 := hid hR2
              clear hR1 hR2
              by_cases hr : mid < en ∧ en < b
              · obtain ⟨hr1, hr2⟩ := hr
                have HC := hid (fun (w : World) (hS : St W w (pks g n c R :: rs')) => IH.out W w (pks g n c R :: rs') rs' g n c mid en b R g6 hS Pull.head hr1 hr2 hb hn S5.out S6.out)
                repeat' (first
                 | ((with_reducible refine gt9 _ (.call ⟨.value (.func 101), _, _⟩) ?_); refine wpl_call (f := 101) Tryd.call101 kr9 ?_; refine ⟨_, (HC.out _ hS), ?_⟩; rintro e w ⟨rfl, Z, hZ1, hZ2, hS2⟩; replace hS := hS2; clear hS2; refine ⟨_, rfl, ?_⟩; refine put_move ?_; go_step) | (refine y9146 ?_) | (refine y9140 ?_) | ((with_reducible refine gs9 208 ?_); (refine wplD _ (V.lss rfl rfl) kr9 (fun hB => ?_) (fun hB => ?_) <;> (try (have hF : False := (by omega); cases hF)) <;> go_step)) | (refine y946 ?_) | ((fail_if_success with_reducible refine ga9 ?_); go_step))
                go_end0
                obtain ⟨j1, j2⟩ := sym_join (show a ≤ mid by omega) (show mid ≤ b by omega) (show b ≤ Q.length by rw [hQn]; exact hb) HX.out R2.out hZ2 R1.out hZ1
                exact ⟨rfl, Z, j1, HQR.out.trans j2, hS⟩
              · have hZ1 : Asc PkV.w mid b R := by
                 by_cases c1 : mid < en
                 · exact S5.out.sub (Nat.le_refl _) (by omega)
                 · exact S6.out.sub (by omega) (Nat.le_refl _)
                repeat' (first
                 | (refine y9146 ?_) | (refine y9140 ?_) | ((with_reducible refine gs9 208 ?_); (refine wplD _ (V.lss rfl rfl) kr9 (fun hB => ?_) (fun hB => ?_) <;> (try (have hF : False := (by omega); cases hF)) <;> go_step)) | (refine y946 ?_) | ((fail_if_success with_reducible refine ga9 ?_); go_step))
                all_goals
                 go_end0
                 obtain ⟨j1, j2⟩ := sym_join (show a ≤ mid by omega) (show mid ≤ b by omega) (show b ≤ Q.length by rw [hQn]; exact hb) HX.out R2.out (Rg.refl _ _ _) R1.out hZ1
                 exact ⟨rfl, R, j1, HQR.out.trans j2, hS⟩
            · obtain ⟨R, hRe⟩ : ∃ R, R = Q := ⟨Q, rfl⟩
              have hR2 : Rg a mid Q R := by rw [hRe]; exact Rg.refl _ _ _
              have hR1 : Asc PkV.w a mid R := by
               rw [hRe]
               by_cases c1 : a < st
               · exact S1.out.sub (Nat.le_refl _) (by omega)
               · exact S2.out.sub (by omega) (Nat.le_refl _)
              rw [← hRe] at hS
              repeat' (first
               | go_skip | ((with_reducible refine mv9 ?_); (first | go_big_want | go_step); go_step) | ((with_reducible refine gt9 _ (.pick _ _ _) ?_); first | (refine wplPickT rfl kr9 ?_; go_step) | (refine wplPickF rfl kr9 ?_; go_step)) | ((with_reducible refine gs9 194 ?_); (refine wplD _ (V.lss rfl rfl) kr9 (fun hB => ?_) (fun hB => ?_) <;> (try (have hF : False := (by omega); cases hF)) <;> go_step)) | ((with_reducible refine gs9 198 ?_); (refine wvv9 (V.lss rfl rfl) ?_; go_step)) | ((fail_if_success with_reducible refine ga9 ?_); go_step))
              all_goals
               have S5 := hid (S3.out.same (Q := R) fun x k1 k2 => hR2.out x (by omega))
               have S6 := hid (S4.out.same (Q := R) fun x k1 k2 => hR2.out x (by omega))
               have R1 := hid hR1
               have R2 := hid hR2
               clear hR1 hR2
               by_cases hr : mid < en ∧ en < b
               · obtain ⟨hr1, hr2⟩ := hr
                 have HC := hid (fun (w : World) (hS : St W w (pks g n c R :: rs')) => IH.out W w (pks g n c R :: rs') rs' g n c mid en b R g6 hS Pull.head hr1 hr2 hb hn S5.out S6.out)
                 repeat' (first
                  | ((with_reducible refine gt9 _ (.call ⟨.value (.func 101), _, _⟩) ?_); refine wpl_call (f := 101) Tryd.call101 kr9 ?_; refine ⟨_, (HC.out _ hS), ?_⟩; rintro e w ⟨rfl, Z, hZ1, hZ2, hS2⟩; replace hS := hS2; clear hS2; refine ⟨_, rfl, ?_⟩; refine put_move ?_; go_step) | (refine y9146 ?_) | (refine y9140 ?_) | ((with_reducible refine gs9 208 ?_); (refine wplD _ (V.lss rfl rfl) kr9 (fun hB => ?_) (fun hB => ?_) <;> (try (have hF : False := (by omega); cases hF)) <;> go_step)) | (refine y946 ?_) | ((fail_if_success with_reducible refine ga9 ?_); go_step))
                 go_end0
                 obtain ⟨j1, j2⟩ := sym_join (show a ≤ mid by omega) (show mid ≤ b by omega) (show b ≤ Q.length by rw [hQn]; exact hb) HX.out R2.out hZ2 R1.out hZ1
                 exact ⟨rfl, Z, j1, HQR.out.trans j2, hS⟩
               · have hZ1 : Asc PkV.w mid b R := by
                  by_cases c1 : mid < en
                  · exact S5.out.sub (Nat.le_refl _) (by omega)
                  · exact S6.out.sub (by omega) (Nat.le_refl _)
                 repeat' (first
                  | (refine y9146 ?_) | (refine y9140 ?_) | ((with_reducible refine gs9 208 ?_); (refine wplD _ (V.lss rfl rfl) kr9 (fun hB => ?_) (fun hB => ?_) <;> (try (have hF : False := (by omega); cases hF)) <;> go_step)) | (refine y946 ?_) | ((fail_if_success with_reducible refine ga9 ?_); go_step))
                 all_goals
                  go_end0
                  obtain ⟨j1, j2⟩ := sym_join (show a ≤ mid by omega) (show mid ≤ b by omega) (show b ≤ Q.length by rw [hQn]; exact hb) HX.out R2.out (Rg.refl _ _ _) R1.out hZ1
                  exact ⟨rfl, R, j1, HQR.out.trans j2, hS⟩
          · obtain ⟨Q, hQe, hQ⟩ : ∃ Q, Q = P ∧ Rot st m en P Q := ⟨P, rfl, Rot.triv (by omega) (by omega) (by omega) (by omega)⟩
            rw [← hQe] at hS
            repeat' (first
             | (refine y937 ?_) | (refine y91 ?_) | (refine y9140 ?_) | ((with_reducible refine gs9 180 ?_); (refine wplD _ (V.lss rfl rfl) kr9 (fun hB => ?_) (fun hB => ?_) <;> (try (have hF : False := (by omega); cases hF)) <;> go_step)) | (refine y938 ?_) | ((fail_if_success with_reducible refine ga9 ?_); go_step))
            all_goals
             obtain ⟨s1, s2, s3, s4, hx⟩ := sym_parts HA1.out HA2.out ham hmb hmid (show en = mid + m - st by omega) (by omega) (by omega) (by omega) (by omega) (by omega) HLO2.out HHI2.out hQ
             have hQr := hQ.rg (show st ≤ m by omega) (show m ≤ en by omega)
             have hQl := hQr.len
             have HQR := hid (hQr.wide (show a ≤ st by omega) (show en ≤ b by omega) (by omega) (by omega))
             have HX := hid hx
             have S1 := hid s1
             have S2 := hid s2
             have S3 := hid s3
             have S4 := hid s4
             have g1 : a ≤ st := by omega
             have g2 : st ≤ mid := by omega
             have g3 : mid ≤ en := by omega
             have g4 : en ≤ b := by omega
             have g5 : mid - a ≤ N := by omega
             have g6 : b - mid ≤ N := by omega
             have g7 : a < mid := by omega
             have g8 : mid < b := by omega
             have hQn : Q.length = n := by omega
             clear hx s1 s2 s3 s4 hQ hQr HLO2 HHI2 HA1 HA2 F5 HS0a HS0b HR0a HR0b hen hlt hk hst hr f5 f1 f2 f3 f4 hT hmid e1 e2 hc h1' h2' hN hrot hQl hPl hp ham hmb
             by_cases hl : a < st ∧ st < mid
             · obtain ⟨hl1, hl2⟩ := hl
               have hb2 : mid ≤ n := by omega
               have HC := hid (fun (w : World) (hS : St W w (pks g n c Q :: rs')) => IH.out W w (pks g n c Q :: rs') rs' g n c a st mid Q g5 hS Pull.head hl1 hl2 hb2 hn S1.out S2.out)
               repeat' (first
                | ((with_reducible refine gt9 _ (.call ⟨.value (.func 101), _, _⟩) ?_); refine wpl_call (f := 101) Tryd.call101 kr9 ?_; refine ⟨_, (HC.out _ hS), ?_⟩; rintro e w ⟨rfl, R, hR1, hR2, hS2⟩; replace hS := hS2; clear hS2; refine ⟨_, rfl, ?_⟩; refine put_move ?_; go_step) | (refine y9146 ?_) | (refine y9140 ?_) | ((with_reducible refine gs9 194 ?_); (refine wplD _ (V.lss rfl rfl) kr9 (fun hB => ?_) (fun hB => ?_) <;> (try (have hF : False := (by omega); cases hF)) <;> go_step)) | (refine y940 ?_) | ((fail_if_success with_reducible refine ga9 ?_); go_step))
               have S5 := hid (S3.out.same (Q := R) fun x k1 k2 => hR2.out x (by omega))
               have S6 := hid (S4.out.same (Q := R) fun x k1 k2 => hR2.out x (by omega))
               have R1 := hid hR1
               have R2 := hid hR2
               clear hR1 hR2
               by_cases hr : mid < en ∧ en < b
               · obtain ⟨hr1, hr2⟩ := hr
                 have HC := hid (fun (w : World) (hS : St W w (pks g n c R :: rs')) => IH.out W w (pks g n c R :: rs') rs' g n c mid en b R g6 hS Pull.head hr1 hr2 hb hn S5.out S6.out)
                 repeat' (first
                  | ((with_reducible refine gt9 _ (.call ⟨.value (.func 101), _, _⟩) ?_); refine wpl_call (f := 101) Tryd.call101 kr9 ?_; refine ⟨_, (HC.out _ hS), ?_⟩; rintro e w ⟨rfl, Z, hZ1, hZ2, hS2⟩; replace hS := hS2; clear hS2; refine ⟨_, rfl, ?_⟩; refine put_move ?_; go_step) | (refine y9146 ?_) | (refine y9140 ?_) | ((with_reducible refine gs9 208 ?_); (refine wplD _ (V.lss rfl rfl) kr9 (fun hB => ?_) (fun hB => ?_) <;> (try (have hF : False := (by omega); cases hF)) <;> go_step)) | (refine y946 ?_) | ((fail_if_success with_reducible refine ga9 ?_); go_step))
                 go_end0
                 obtain ⟨j1, j2⟩ := sym_join (show a ≤ mid by omega) (show mid ≤ b by omega) (show b ≤ Q.length by rw [hQn]; exact hb) HX.out R2.out hZ2 R1.out hZ1
                 exact ⟨rfl, Z, j1, HQR.out.trans j2, hS⟩
               · have hZ1 : Asc PkV.w mid b R := by
                  by_cases c1 : mid < en
                  · exact S5.out.sub (Nat.le_refl _) (by omega)
                  · exact S6.out.sub (by omega) (Nat.le_refl _)
                 repeat' (first
                  | go_skip | ((with_reducible refine mv9 ?_); (first | go_big_want | go_step); go_step) | ((with_reducible refine gt9 _ (.pick _ _ _) ?_); first | (refine wplPickT rfl kr9 ?_; go_step) | (refine wplPickF rfl kr9 ?_; go_step)) | ((with_reducible refine gs9 208 ?_); (refine wplD _ (V.lss rfl rfl) kr9 (fun hB => ?_) (fun hB => ?_) <;> (try (have hF : False := (by omega); cases hF)) <;> go_step)) | ((with_reducible refine gs9 212 ?_); (refine wvv9 (V.lss rfl rfl) ?_; go_step)) | ((fail_if_success with_reducible refine ga9 ?_); go_step))
                 all_goals
                  go_end0
                  obtain ⟨j1, j2⟩ := sym_join (show a ≤ mid by omega) (show mid ≤ b by omega) (show b ≤ Q.length by rw [hQn]; exact hb) HX.out R2.out (Rg.refl _ _ _) R1.out hZ1
                  exact ⟨rfl, R, j1, HQR.out.trans j2, hS⟩
             · obtain ⟨R, hRe⟩ : ∃ R, R = Q := ⟨Q, rfl⟩
               have hR2 : Rg a mid Q R := by rw [hRe]; exact Rg.refl _ _ _
               have hR1 : Asc PkV.w a mid R := by
                rw [hRe]
                by_cases c1 : a < st
                · exact S1.out.sub (Nat.le_refl _) (by omega)
                · exact S2.out.sub (by omega) (Nat.le_refl _)
               rw [← hRe] at hS
               repeat' (first
                | go_skip | ((with_reducible refine mv9 ?_); (first | go_big_want | go_step); go_step) | ((with_reducible refine gt9 _ (.pick _ _ _) ?_); first | (refine wplPickT rfl kr9 ?_; go_step) | (refine wplPickF rfl kr9 ?_; go_step)) | ((with_reducible refine gs9 194 ?_); (refine wplD _ (V.lss rfl rfl) kr9 (fun hB => ?_) (fun hB => ?_) <;> (try (have hF : False := (by omega); cases hF)) <;> go_step)) | ((with_reducible refine gs9 198 ?_); (refine wvv9 (V.lss rfl rfl) ?_; go_step)) | ((fail_if_success with_reducible refine ga9 ?_); go_step))
               all_goals
                have S5 := hid (S3.out.same (Q := R) fun x k1 k2 => hR2.out x (by omega))
                have S6 := hid (S4.out.same (Q := R) fun x k1 k2 => hR2.out x (by omega))
                have R1 := hid hR1
                have R2 := hid hR2
                clear hR1 hR2
                by_cases hr : mid < en ∧ en < b
                · obtain ⟨hr1, hr2⟩ := hr
                  have HC := hid (fun (w : World) (hS : St W w (pks g n c R :: rs')) => IH.out W w (pks g n c R :: rs') rs' g n c mid en b R g6 hS Pull.head hr1 hr2 hb hn S5.out S6.out)
                  repeat' (first
                   | ((with_reducible refine gt9 _ (.call ⟨.value (.func 101), _, _⟩) ?_); refine wpl_call (f := 101) Tryd.call101 kr9 ?_; refine ⟨_, (HC.out _ hS), ?_⟩; rintro e w ⟨rfl, Z, hZ1, hZ2, hS2⟩; replace hS := hS2; clear hS2; refine ⟨_, rfl, ?_⟩; refine put_move ?_; go_step) | (refine y9146 ?_) | (refine y9140 ?_) | ((with_reducible refine gs9 208 ?_); (refine wplD _ (V.lss rfl rfl) kr9 (fun hB => ?_) (fun hB => ?_) <;> (try (have hF : False := (by omega); cases hF)) <;> go_step)) | (refine y946 ?_) | ((fail_if_success with_reducible refine ga9 ?_); go_step))
                  go_end0
                  obtain ⟨j1, j2⟩ := sym_join (show a ≤ mid by omega) (show mid ≤ b by omega) (show b ≤ Q.length by rw [hQn]; exact hb) HX.out R2.out hZ2 R1.out hZ1
                  exact ⟨rfl, Z, j1, HQR.out.trans j2, hS⟩
                · have hZ1 : Asc PkV.w mid b R := by
                   by_cases c1 : mid < en
                   · exact S5.out.sub (Nat.le_refl _) (by omega)
                   · exact S6.out.sub (by omega) (Nat.le_refl _)
                  repeat' (first
                   | go_skip | ((with_reducible refine mv9 ?_); (first | go_big_want | go_step); go_step) | ((with_reducible refine gt9 _ (.pick _ _ _) ?_); first | (refine wplPickT rfl kr9 ?_; go_step) | (refine wplPickF rfl kr9 ?_; go_step)) | ((with_reducible refine gs9 208 ?_); (refine wplD _ (V.lss rfl rfl) kr9 (fun hB => ?_) (fun hB => ?_) <;> (try (have hF : False := (by omega); cases hF)) <;> go_step)) | ((with_reducible refine gs9 212 ?_); (refine wvv9 (V.lss rfl rfl) ?_; go_step)) | ((fail_if_success with_reducible refine ga9 ?_); go_step))
                  all_goals
                   go_end0
                   obtain ⟨j1, j2⟩ := sym_join (show a ≤ mid by omega) (show mid ≤ b by omega) (show b ≤ Q.length by rw [hQn]; exact hb) HX.out R2.out (Rg.refl _ _ _) R1.out hZ1
                   exact ⟨rfl, R, j1, HQR.out.trans j2, hS⟩
     · have e1 := HS0b.out hc
       have e2 := HR0b.out hc
       repeat' (first
        | (refine y918 ?_) | (refine y921 ?_) | (refine y923 ?_) | (refine y91 ?_) | (refine y920 ?_) | (refine y922 ?_) | ((with_reducible refine gs9 140 ?_); (refine wvv9 (V.gtr rfl rfl) ?_; go_step)) | ((fail_if_success with_reducible refine ga9 ?_); go_step))
       repeat' (first
        | (refine y926 ?_) | (refine y92 ?_) | ((fail_if_success with_reducible refine ga9 ?_); go_step))
       go_loopg [20, 21] (r0 - s0) (fun gk iv jv w => ∃ (st r : Nat), gk + st = r ∧ s0 ≤ st ∧ r ≤ r0 ∧ iv = .int .i64 st ∧ jv = .int .i64 r ∧ (s0 < st → wk P (st - 1) ≤ wk P (T - st)) ∧ (r < r0 → wk P (T - 1 - r) ≤ wk P r) ∧ St W w (pks g n c P :: rs'))
       case atStart => exact ⟨s0, r0, by omega, by omega, by omega, by first | rfl | rw [e1], by first | rfl | rw [e2], fun h => by omega, fun h => by omega, hS⟩
       case round =>
        clear hS
        obtain ⟨st, r, hk, hst, hr, rfl, rfl, hlo, hhi, hS⟩ := hrel
        have HLO := hid hlo
        have HHI := hid hhi
        clear hlo hhi
        have f5 := F5.out st hst (by omega)
        by_cases hlt : st < r
        · obtain ⟨h, hh⟩ : ∃ h, h = (st + r) / 2 := ⟨_, rfl⟩
          obtain ⟨y, hy⟩ : ∃ y, y = T - 1 - h := ⟨_, rfl⟩
          have f6 := F5.out (h + 1) (by omega) (by omega)
          obtain ⟨v, hv⟩ : ∃ v, cmpv (elt P y).w (elt P h).w = v := ⟨_, rfl⟩
          have hv2 := cmpv_lt (elt P y).w (elt P h).w
          rw [hv] at hv2
          have HV := hid hv
          have HV2 := hid hv2
          clear hv hv2
          repeat' (first
           | (refine y929 ?_) | (refine y931 ?_) | (refine y91 ?_) | (refine y928 ?_) | (refine y930 ?_) | (refine y932 ?_) | ((fail_if_success with_reducible refine ga9 ?_); go_step))
          refine drawn_lit [11] (fun w => St W w (pks g n c P :: rs')) kr9 ?_
          replace hS := hS.drew
          focus
           refine takeM 0 _ al9 kr9 kr9 kr9 hq9 rfl ?_
           go_step
           refine takeM 1 _ al9 kr9 kr9 kr9 hq9 rfl ?_
           go_step
           refine takeM 2 _ al9 kr9 kr9 kr9 hq9 rfl ?_
           go_step
           refine takeM 3 _ al9 kr9 kr9 kr9 hq9 rfl ?_
           go_step
           (refine takeV 4 (.int _ (((y : Nat) : Int))) al9 kr9 kr9 kr9 hq9 (V.as (V.subI rfl rfl (by omega)) (by omega)) rfl ?_)
           go_step
           (refine takeV 5 _ al9 kr9 kr9 kr9 hq9 (V.indexSl Tryd.underlying134 isz133 rfl rfl isn9 (by omega) rfl nq9) rfl ?_)
           go_step
           apply takeS 6 al9 kr9 kr9 kr9 hq9 [11, 12, 13] kr9 (hS.sub sb9)
           case hfr => intro w hS; ((refine wl9 ?_; apply wp_loadE hS 133 _ rfl _ _ rfl 2 (row_of rfl) _ _ _ _ _; (case hp => exact pl9); (case inst => infer_instance); (case he => with_reducible assumption); (case hq => exact rfl); (case hj => omega); refine put_move ?_; go_step)); refine wpList_nil ?_; exact ⟨rfl, rfl⟩
           case hd => rfl
           refine takeM 7 _ al9 kr9 kr9 kr9 hq9 rfl ?_
           go_step
           refine takeM 8 _ al9 kr9 kr9 kr9 hq9 rfl ?_
           go_step
           (refine takeV 9 _ al9 kr9 kr9 kr9 hq9 (V.indexSl Tryd.underlying134 isz133 rfl rfl isn9 (by omega) rfl nq9) rfl ?_)
           go_step
           apply takeS 10 al9 kr9 kr9 kr9 hq9 [11, 12, 13] kr9 (hS.sub sb9)
           case hfr => intro w hS; ((refine wl9 ?_; apply wp_loadE hS 133 _ rfl _ _ rfl 2 (row_of rfl) _ _ _ _ _; (case hp => exact pl9); (case inst => infer_instance); (case he => with_reducible assumption); (case hq => exact rfl); (case hj => omega); refine put_move ?_; go_step)); refine wpList_nil ?_; exact ⟨rfl, rfl⟩
           case hd => rfl
           refine branch1 11 al9 rfl kr9 ?_
           refine wp_callV (f := 67) rfl rfl Tryd.call67 (byWeight_any _ (elt P y) (elt P h)) ?_; rintro e w ⟨rfl, hE⟩; replace hS := hS.ext hE; clear hE; rw [HV.out]; refine ⟨_, rfl, ?_⟩
           refine ⟨fun h => absurd (by decide) h, ?_⟩
           refine drawn_move ?_
           go_step
           (refine takeV 12 _ al9 kr9 kr9 kr9 hq9 (V.lss rfl rfl) rfl ?_)
           go_step
           (refine takeV 13 _ al9 kr9 kr9 kr9 hq9 (V.notD rfl) rfl ?_)
           go_step
           refine drawn_done kr9 ?_ _
          by_cases hc2 : v < 0
          · skip
            repeat' (first
             | (refine y91 ?_) | ((fail_if_success with_reducible refine ga9 ?_); go_step))
            go_roundg (h - st)
            case measure => omega
            case rel =>
             refine ⟨st, h, by omega, by omega, by omega, rfl, by go_num, HLO.out, fun k1 => ?_, hS⟩
             have := HV2.out.1 hc2
             rw [← hy]
             exact Int.le_of_lt this
          · skip
            repeat' (first
             | (refine y936 ?_) | (refine y91 ?_) | ((fail_if_success with_reducible refine ga9 ?_); go_step))
            go_roundg (r - (h + 1))
            case measure => omega
            case rel =>
             refine ⟨h + 1, r, by omega, by omega, by omega, by go_num, rfl, fun k1 => ?_, HHI.out, hS⟩
             have := HV2.out
             rw [show T - (h + 1) = y by omega, Nat.add_sub_cancel]
             show (elt P h).w ≤ (elt P y).w
             omega
        · obtain rfl : st = r := by omega
          obtain ⟨en, hen⟩ : ∃ en, en = T - st := ⟨_, rfl⟩
          have HLO2 : Hid (a < st → m ≤ en → en < b → wk P (st - 1) ≤ wk P en) := fun k1 k2 k3 => by
           rw [hen]; exact HLO.out (by omega)
          have HHI2 : Hid (m < en → st < m → wk P (en - 1) ≤ wk P st) := fun k1 k2 => by
           rw [show en - 1 = T - 1 - st by omega]; exact HHI.out (by omega)
          clear HLO HHI
          repeat' (first
           | (refine y9146 ?_) | (refine y928 ?_) | ((fail_if_success with_reducible refine ga9 ?_); go_step))
          by_cases hrot : st < m ∧ m < en
          · have hrot1 := hrot.1
            have hrot2 := hrot.2
            repeat' (first
             | (refine y937 ?_) | ((with_reducible refine gt9 _ (.call ⟨.value (.func 109), _, _⟩) ?_); refine wpl_call (f := 109) Tryd.call109 kr9 ?_; refine ⟨_, (rotate_any W _ _ rs' g n c st m en P hS Pull.head hrot1 hrot2 (by omega) hn byW), ?_⟩; rintro e w ⟨rfl, Q, hQ, hS2⟩; replace hS := hS2; clear hS2; refine ⟨_, rfl, ?_⟩; refine put_move ?_; go_step) | (refine y91 ?_) | (refine y9140 ?_) | ((with_reducible refine gs9 180 ?_); (refine wplD _ (V.lss rfl rfl) kr9 (fun hB => ?_) (fun hB => ?_) <;> (try (have hF : False := (by omega); cases hF)) <;> go_step)) | (refine y938 ?_) | ((fail_if_success with_reducible refine ga9 ?_); go_step))
            obtain ⟨s1, s2, s3, s4, hx⟩ := sym_parts HA1.out HA2.out ham hmb hmid (show en = mid + m - st by omega) (by omega) (by omega) (by omega) (by omega) (by omega) HLO2.out HHI2.out hQ
            have hQr := hQ.rg (show st ≤ m by omega) (show m ≤ en by omega)
            have hQl := hQr.len
            have HQR := hid (hQr.wide (show a ≤ st by omega) (show en ≤ b by omega) (by omega) (by omega))
            have HX := hid hx
            have S1 := hid s1
            have S2 := hid s2
            have S3 := hid s3
            have S4 := hid s4
            have g1 : a ≤ st := by omega
            have g2 : st ≤ mid := by omega
            have g3 : mid ≤ en := by omega
            have g4 : en ≤ b := by omega
            have g5 : mid - a ≤ N := by omega
            have g6 : b - mid ≤ N := by omega
            have g7 : a < mid := by omega
            have g8 : mid < b := by omega
            have hQn : Q.length = n := by omega
            clear hx s1 s2 s3 s4 hQ hQr HLO2 HHI2 HA1 HA2 F5 HS0a HS0b HR0a HR0b hen hlt hk hst hr f5 f1 f2 f3 f4 hT hmid e1 e2 hc h1' h2' hN hrot hQl hPl hp ham hmb
            by_cases hl : a < st ∧ st < mid
            · obtain ⟨hl1, hl2⟩ := hl
              have hb2 : mid ≤ n := by omega
              have HC := hid (fun (w : World) (hS : St W w (pks g n c Q :: rs')) => IH.out W w (pks g n c Q :: rs') rs' g n c a st mid Q g5 hS Pull.head hl1 hl2 hb2 hn S1.out S2.out)
              repeat' (first
               | ((with_reducible refine gt9 _ (.call ⟨.value (.func 101), _, _⟩) ?_); refine wpl_call (f := 101) Tryd.call101 kr9 ?_; refine ⟨_, (HC.out _ hS), ?_⟩; rintro e w ⟨rfl, R, hR1, hR2, hS2⟩; replace hS := hS2; clear hS2; refine ⟨_, rfl, ?_⟩; refine put_move ?_; go_step) | (refine y9146 ?_) | (refine y9140 ?_) | ((with_reducible refine gs9 194 ?_); (refine wplD _ (V.lss rfl rfl) kr9 (fun hB => ?_) (fun hB => ?_) <;> (try (have hF : False := (by omega); cases hF)) <;> go_step)) | (refine y940 ?_) | ((fail_if_success with_reducible refine ga9 ?_); go_step))
              have S5 := hid (S3.out.same (Q := R) fun x k1 k2 => hR2.out x (by omega))
              have S6 := hid (S4.out.same (Q := R) fun x k1 k2 => hR2.out x (by omega))
              have R1 := hid hR1
              have R2 := hid hR2
              clear hR1 hR2
              by_cases hr : mid < en ∧ en < b
              · obtain ⟨hr1, hr2⟩ := hr
                have HC := hid (fun (w : World) (hS : St W w (pks g n c R :: rs')) => IH.out W w (pks g n c R :: rs') rs' g n c mid en b R g6 hS Pull.head hr1 hr2 hb hn S5.out S6.out)
                repeat' (first
                 | ((with_reducible refine gt9 _ (.call ⟨.value (.func 101), _, _⟩) ?_); refine wpl_call (f := 101) Tryd.call101 kr9 ?_; refine ⟨_, (HC.out _ hS), ?_⟩; rintro e w ⟨rfl, Z, hZ1, hZ2, hS2⟩; replace hS := hS2; clear hS2; refine ⟨_, rfl, ?_⟩; refine put_move ?_; go_step) | (refine y9146 ?_) | (refine y9140 ?_) | ((with_reducible refine gs9 208 ?_); (refine wplD _ (V.lss rfl rfl) kr9 (fun hB => ?_) (fun hB => ?_) <;> (try (have hF : False := (by omega); cases hF)) <;> go_step)) | (refine y946 ?_) | ((fail_if_success with_reducible refine ga9 ?_); go_step))
                go_end0
                obtain ⟨j1, j2⟩ := sym_join (show a ≤ mid by omega) (show mid ≤ b by omega) (show b ≤ Q.length by rw [hQn]; exact hb) HX.out R2.out hZ2 R1.out hZ1
                exact ⟨rfl, Z, j1, HQR.out.trans j2, hS⟩
              · have hZ1 : Asc PkV.w mid b R := by
                 by_cases c1 : mid < en
                 · exact S5.out.sub (Nat.le_refl _) (by omega)
                 · exact S6.out.sub (by omega) (Nat.le_refl _)
                repeat' (first
                 | go_skip | ((with_reducible refine mv9 ?_); (first | go_big_want | go_step); go_step) | ((with_reducible refine gt9 _ (.pick _ _ _) ?_); first | (refine wplPickT rfl kr9 ?_; go_step) | (refine wplPickF rfl kr9 ?_; go_step)) | ((with_reducible refine gs9 208 ?_); (refine wplD _ (V.lss rfl rfl) kr9 (fun hB => ?_) (fun hB => ?_) <;> (try (have hF : False := (by omega); cases hF)) <;> go_step)) | ((with_reducible refine gs9 212 ?_); (refine wvv9 (V.lss rfl rfl) ?_; go_step)) | ((fail_if_success with_reducible refine ga9 ?_); go_step))
                all_goals
                 go_end0
                 obtain ⟨j1, j2⟩ := sym_join (show a ≤ mid by omega) (show mid ≤ b by omega) (show b ≤ Q.length by rw [hQn]; exact hb) HX.out R2.out (Rg.refl _ _ _) R1.out hZ1
                 exact ⟨rfl, R, j1, HQR.out.trans j2, hS⟩
            · obtain ⟨R, hRe⟩ : ∃ R, R = Q := ⟨Q, rfl⟩
              have hR2 : Rg a mid Q R := by rw [hRe]; exact Rg.refl _ _ _
              have hR1 : Asc PkV.w a mid R := by
               rw [hRe]
               by_cases c1 : a < st
               · exact S1.out.sub (Nat.le_refl _) (by omega)
               · exact S2.out.sub (by omega) (Nat.le_refl _)
              rw [← hRe] at hS
              repeat' (first
               | go_skip | ((with_reducible refine mv9 ?_); (first | go_big_want | go_step); go_step) | ((with_reducible refine gt9 _ (.pick _ _ _) ?_); (refine wplPickF rfl kr9 ?_; go_step)) | ((with_reducible refine gs9 194 ?_); (refine wplD _ (V.lss rfl rfl) kr9 (fun hB => ?_) (fun hB => ?_) <;> (try (have hF : False := (by omega); cases hF)) <;> go_step)) | ((fail_if_success with_reducible refine ga9 ?_); go_step))
              all_goals
               have S5 := hid (S3.out.same (Q := R) fun x k1 k2 => hR2.out x (by omega))
               have S6 := hid (S4.out.same (Q := R) fun x k1 k2 => hR2.out x (by omega))
               have R1 := hid hR1
               have R2 := hid hR2
               clear hR1 hR2
               by_cases hr : mid < en ∧ en < b
               · obtain ⟨hr1, hr2⟩ := hr
                 have HC := hid (fun (w : World) (hS : St W w (pks g n c R :: rs')) => IH.out W w (pks g n c R :: rs') rs' g n c mid en b R g6 hS Pull.head hr1 hr2 hb hn S5.out S6.out)
                 repeat' (first
                  | ((with_reducible refine gt9 _ (.call ⟨.value (.func 101), _, _⟩) ?_); refine wpl_call (f := 101) Tryd.call101 kr9 ?_; refine ⟨_, (HC.out _ hS), ?_⟩; rintro e w ⟨rfl, Z, hZ1, hZ2, hS2⟩; replace hS := hS2; clear hS2; refine ⟨_, rfl, ?_⟩; refine put_move ?_; go_step) | (refine y9146 ?_) | (refine y9140 ?_) | ((with_reducible refine gs9 208 ?_); (refine wplD _ (V.lss rfl rfl) kr9 (fun hB => ?_) (fun hB => ?_) <;> (try (have hF : False := (by omega); cases hF)) <;> go_step)) | (refine y946 ?_) | ((fail_if_success with_reducible refine ga9 ?_); go_step))
                 go_end0
                 obtain ⟨j1, j2⟩ := sym_join (show a ≤ mid by omega) (show mid ≤ b by omega) (show b ≤ Q.length by rw [hQn]; exact hb) HX.out R2.out hZ2 R1.out hZ1
                 exact ⟨rfl, Z, j1, HQR.out.trans j2, hS⟩
               · have hZ1 : Asc PkV.w mid b R := by
                  by_cases c1 : mid < en
                  · exact S5.out.sub (Nat.le_refl _) (by omega)
                  · exact S6.out.sub (by omega) (Nat.le_refl _)
                 repeat' (first
                  | go_skip | ((with_reducible refine mv9 ?_); (first | go_big_want | go_step); go_step) | ((with_reducible refine gt9 _ (.pick _ _ _) ?_); first | (refine wplPickT rfl kr9 ?_; go_step) | (refine wplPickF rfl kr9 ?_; go_step)) | ((with_reducible refine gs9 208 ?_); (refine wplD _ (V.lss rfl rfl) kr9 (fun hB => ?_) (fun hB => ?_) <;> (try (have hF : False := (by omega); cases hF)) <;> go_step)) | ((with_reducible refine gs9 212 ?_); (refine wvv9 (V.lss rfl rfl) ?_; go_step)) | ((fail_if_success with_reducible refine ga9 ?_); go_step))
                 all_goals
                  go_end0
                  obtain ⟨j1, j2⟩ := sym_join (show a ≤ mid by omega) (show mid ≤ b by omega) (show b ≤ Q.length by rw [hQn]; exact hb) HX.out R2.out (Rg.refl _ _ _) R1.out hZ1
                  exact ⟨rfl, R, j1, HQR.out.trans j2, hS⟩
          · obtain ⟨Q, hQe, hQ⟩ : ∃ Q, Q = P ∧ Rot st m en P Q := ⟨P, rfl, Rot.triv (by omega) (by omega) (by omega) (by omega)⟩
            rw [← hQe] at hS
            repeat' (first
             | (refine y937 ?_) | go_skip | (refine y91 ?_) | (refine y9139 ?_) | ((with_reducible refine gs9 180 ?_); (refine wplD _ (V.lss rfl rfl) kr9 (fun hB => ?_) (fun hB => ?_) <;> (try (have hF : False := (by omega); cases hF)) <;> go_step)) | ((fail_if_success with_reducible refine ga9 ?_); go_step))
            all_goals
             obtain ⟨s1, s2, s3, s4, hx⟩ := sym_parts HA1.out HA2.out ham hmb hmid (show en = mid + m - st by omega) (by omega) (by omega) (by omega) (by omega) (by omega) HLO2.out HHI2.out hQ
             have hQr := hQ.rg (show st ≤ m by omega) (show m ≤ en by omega)
             have hQl := hQr.len
             have HQR := hid (hQr.wide (show a ≤ st by omega) (show en ≤ b by omega) (by omega) (by omega))
             have HX := hid hx
             have S1 := hid s1
             have S2 := hid s2
             have S3 := hid s3
             have S4 := hid s4
             have g1 : a ≤ st := by omega
             have g2 : st ≤ mid := by omega
             have g3 : mid ≤ en := by omega
             have g4 : en ≤ b := by omega
             have g5 : mid - a ≤ N := by omega
             have g6 : b - mid ≤ N := by omega
             have g7 : a < mid := by omega
             have g8 : mid < b := by omega
             have hQn : Q.length = n := by omega
             clear hx s1 s2 s3 s4 hQ hQr HLO2 HHI2 HA1 HA2 F5 HS0a HS0b HR0a HR0b hen hlt hk hst hr f5 f1 f2 f3 f4 hT hmid e1 e2 hc h1' h2' hN hrot hQl hPl hp ham hmb
             by_cases hl : a < st ∧ st < mid
             · obtain ⟨hl1, hl2⟩ := hl
               have hb2 : mid ≤ n := by omega
               have HC := hid (fun (w : World) (hS : St W w (pks g n c Q :: rs')) => IH.out W w (pks g n c Q :: rs') rs' g n c a st mid Q g5 hS Pull.head hl1 hl2 hb2 hn S1.out S2.out)
               repeat' (first
                | ((with_reducible refine gt9 _ (.call ⟨.value (.func 101), _, _⟩) ?_); refine wpl_call (f := 101) Tryd.call101 kr9 ?_; refine ⟨_, (HC.out _ hS), ?_⟩; rintro e w ⟨rfl, R, hR1, hR2, hS2⟩; replace hS := hS2; clear hS2; refine ⟨_, rfl, ?_⟩; refine put_move ?_; go_step) | (refine y9146 ?_) | (refine y9140 ?_) | ((with_reducible refine gs9 194 ?_); (refine wplD _ (V.lss rfl rfl) kr9 (fun hB => ?_) (fun hB => ?_) <;> (try (have hF : False := (by omega); cases hF)) <;> go_step)) | (refine y940 ?_) | ((fail_if_success with_reducible refine ga9 ?_); go_step))
               have S5 := hid (S3.out.same (Q := R) fun x k1 k2 => hR2.out x (by omega))
               have S6 := hid (S4.out.same (Q := R) fun x k1 k2 => hR2.out x (by omega))
               have R1 := hid hR1
               have R2 := hid hR2
               clear hR1 hR2
               by_cases hr : mid < en ∧ en < b
               · obtain ⟨hr1, hr2⟩ := hr
                 have HC := hid (fun (w : World) (hS : St W w (pks g n c R :: rs')) => IH.out W w (pks g n c R :: rs') rs' g n c mid en b R g6 hS Pull.head hr1 hr2 hb hn S5.out S6.out)
                 repeat' (first
                  | ((with_reducible refine gt9 _ (.call ⟨.value (.func 101), _, _⟩) ?_); refine wpl_call (f := 101) Tryd.call101 kr9 ?_; refine ⟨_, (HC.out _ hS), ?_⟩; rintro e w ⟨rfl, Z, hZ1, hZ2, hS2⟩; replace hS := hS2; clear hS2; refine ⟨_, rfl, ?_⟩; refine put_move ?_; go_step) | (refine y9146 ?_) | (refine y9140 ?_) | ((with_reducible refine gs9 208 ?_); (refine wplD _ (V.lss rfl rfl) kr9 (fun hB => ?_) (fun hB => ?_) <;> (try (have hF : False := (by omega); cases hF)) <;> go_step)) | (refine y946 ?_) | ((fail_if_success with_reducible refine ga9 ?_); go_step))
                 go_end0
                 obtain ⟨j1, j2⟩ := sym_join (show a ≤ mid by omega) (show mid ≤ b by omega) (show b ≤ Q.length by rw [hQn]; exact hb) HX.out R2.out hZ2 R1.out hZ1
                 exact ⟨rfl, Z, j1, HQR.out.trans j2, hS⟩
               · have hZ1 : Asc PkV.w mid b R := by
                  by_cases c1 : mid < en
                  · exact S5.out.sub (Nat.le_refl _) (by omega)
                  · exact S6.out.sub (by omega) (Nat.le_refl _)
                 repeat' (first
                  | go_skip | ((with_reducible refine mv9 ?_); (first | go_big_want | go_step); go_step) | ((with_reducible refine gt9 _ (.pick _ _ _) ?_); first | (refine wplPickT rfl kr9 ?_; go_step) | (refine wplPickF rfl kr9 ?_; go_step)) | ((with_reducible refine gs9 208 ?_); (refine wplD _ (V.lss rfl rfl) kr9 (fun hB => ?_) (fun hB => ?_) <;> (try (have hF : False := (by omega); cases hF)) <;> go_step)) | ((with_reducible refine gs9 212 ?_); (refine wvv9 (V.lss rfl rfl) ?_; go_step)) | ((fail_if_success with_reducible refine ga9 ?_); go_step))
                 all_goals
                  go_end0
                  obtain ⟨j1, j2⟩ := sym_join (show a ≤ mid by omega) (show mid ≤ b by omega) (show b ≤ Q.length by rw [hQn]; exact hb) HX.out R2.out (Rg.refl _ _ _) R1.out hZ1
                  exact ⟨rfl, R, j1, HQR.out.trans j2, hS⟩
             · obtain ⟨R, hRe⟩ : ∃ R, R = Q := ⟨Q, rfl⟩
               have hR2 : Rg a mid Q R := by rw [hRe]; exact Rg.refl _ _ _
               have hR1 : Asc PkV.w a mid R := by
                rw [hRe]
                by_cases c1 : a < st
                · exact S1.out.sub (Nat.le_refl _) (by omega)
                · exact S2.out.sub (by omega) (Nat.le_refl _)
               rw [← hRe] at hS
               repeat' (first
                | go_skip | ((with_reducible refine mv9 ?_); (first | go_big_want | go_step); go_step) | ((with_reducible refine gt9 _ (.pick _ _ _) ?_); first | (refine wplPickT rfl kr9 ?_; go_step) | (refine wplPickF rfl kr9 ?_; go_step)) | ((with_reducible refine gs9 194 ?_); (refine wplD _ (V.lss rfl rfl) kr9 (fun hB => ?_) (fun hB => ?_) <;> (try (have hF : False := (by omega); cases hF)) <;> go_step)) | ((with_reducible refine gs9 198 ?_); (refine wvv9 (V.lss rfl rfl) ?_; go_step)) | ((fail_if_success with_reducible refine ga9 ?_); go_step))
               all_goals
                have S5 := hid (S3.out.same (Q := R) fun x k1 k2 => hR2.out x (by omega))
                have S6 := hid (S4.out.same (Q := R) fun x k1 k2 => hR2.out x (by omega))
                have R1 := hid hR1
                have R2 := hid hR2
                clear hR1 hR2
                by_cases hr : mid < en ∧ en < b
                · obtain ⟨hr1, hr2⟩ := hr
                  have HC := hid (fun (w : World) (hS : St W w (pks g n c R :: rs')) => IH.out W w (pks g n c R :: rs') rs' g n c mid en b R g6 hS Pull.head hr1 hr2 hb hn S5.out S6.out)
                  repeat' (first
                   | ((with_reducible refine gt9 _ (.call ⟨.value (.func 101), _, _⟩) ?_); refine wpl_call (f := 101) Tryd.call101 kr9 ?_; refine ⟨_, (HC.out _ hS), ?_⟩; rintro e w ⟨rfl, Z, hZ1, hZ2, hS2⟩; replace hS := hS2; clear hS2; refine ⟨_, rfl, ?_⟩; refine put_move ?_; go_step) | (refine y9146 ?_) | (refine y9140 ?_) | ((with_reducible refine gs9 208 ?_); (refine wplD _ (V.lss rfl rfl) kr9 (fun hB => ?_) (fun hB => ?_) <;> (try (have hF : False := (by omega); cases hF)) <;> go_step)) | (refine y946 ?_) | ((fail_if_success with_reducible refine ga9 ?_); go_step))
                  go_end0
                  obtain ⟨j1, j2⟩ := sym_join (show a ≤ mid by omega) (show mid ≤ b by omega) (show b ≤ Q.length by rw [hQn]; exact hb) HX.out R2.out hZ2 R1.out hZ1
                  exact ⟨rfl, Z, j1, HQR.out.trans j2, hS⟩
                · have hZ1 : Asc PkV.w mid b R := by
                   by_cases c1 : mid < en
                   · exact S5.out.sub (Nat.le_refl _) (by omega)
                   · exact S6.out.sub (by omega) (Nat.le_refl _)
                  repeat' (first
                   | go_skip | ((with_reducible refine mv9 ?_); (first | go_big_want | go_step); go_step) | ((with_reducible refine gt9 _ (.pick _ _ _) ?_); first | (refine wplPickT rfl kr9 ?_; go_step) | (refine wplPickF rfl kr9 ?_; go_step)) | ((with_reducible refine gs9 208 ?_); (refine wplD _ (V.lss rfl rfl) kr9 (fun hB => ?_) (fun hB => ?_) <;> (try (have hF : False := (by omega); cases hF)) <;> go_step)) | ((with_reducible refine gs9 212 ?_); (refine wvv9 (V.lss rfl rfl) ?_; go_step)) | ((fail_if_success with_reducible refine ga9 ?_); go_step))
                  all_goals
                   go_end0
                   obtain ⟨j1, j2⟩ := sym_join (show a ≤ mid by omega) (show mid ≤ b by omega) (show b ≤ Q.length by rw [hQn]; exact hb) HX.out R2.out (Rg.refl _ _ _) R1.out hZ1
                   exact ⟨rfl, R, j1, HQR.out.trans j2, hS⟩

set_option maxRecDepth 100000
open Go.RowKit
set_option linter.unusedVariables false
theorem asc_void {lo hi : Nat} {P : List PkV} (h : hi ≤ lo) : Asc PkV.w lo hi P := fun i j h1 h2 h3 => by omega
theorem asc_eq {lo hi lo' hi' : Nat} {P : List PkV} (h : Asc PkV.w lo hi P) (h1 : lo = lo') (h2 : hi' ≤ hi) : Asc PkV.w lo' hi' P := by subst h1; exact h.sub (Nat.le_refl _) h2
def Blks (s n : Nat) (P : List PkV) : Prop := ∀ k, Asc PkV.w (k * s) (min (k * s + s) n) P
set_option maxRecDepth 100000 in
set_option maxHeartbeats 8000000 in
theorem stable_any (W w0 : World) (rs rs' : List Res) (g n c : Nat) (P : List PkV) (hS : St W w0 rs) (hp : Pull (pks g n c P) rs rs') (hn : n ≤ 100000) :
 Calls Tryd.prog 84 #[.slice (some ⟨g, 0, none⟩) n c, .int .i64 n, byW] w0 fun e w => e = .returned (.tuple #[]) ∧ ∃ Q, Asc PkV.w 0 n Q ∧ Rg 0 n P Q ∧ St W w (pks g n c Q :: rs') := by
 replace hS := hS.pull hp
 have hPl := own_recs hS Pull.head pkE_len (by decide)
 clear hp
 go_enter Tryd.func84, Tryd.ntmps84
 repeat' (first
  | (refine y91 ?_) | ((fail_if_success with_reducible refine ga9 ?_); go_step))
 go_loopg [7, 8] n (fun gk av bv w => ∃ (k a : Nat) (Q : List PkV), gk + k = n ∧ a = k * 20 ∧ a ≤ n ∧ av = .int .i64 a ∧ bv = .int .i64 (a + 20 : Nat) ∧ (∀ j, j < k → Asc PkV.w (j * 20) (j * 20 + 20) Q) ∧ Rg 0 n P Q ∧ St W w (pks g n c Q :: rs'))
 case atStart => exact ⟨0, 0, P, by omega, rfl, by omega, rfl, rfl, fun j h => by omega, Rg.refl _ _ _, hS⟩
 case round =>
  clear hS
  obtain ⟨k, a, Q, hk, ha, han, rfl, rfl, hA, hR, hS⟩ := hrel
  have HA := hid hA
  have HR := hid hR
  have hQl := hR.len
  clear hA hR
  by_cases hlt : a + 20 ≤ n
  · have HC := hid (fun (w : World) (hS : St W w (pks g n c Q :: rs')) => insSort_any W w (pks g n c Q :: rs') rs' g n c a (a + 20) Q hS Pull.head (by omega) hlt (by omega))
    repeat' (first
     | ((with_reducible refine gs9 22 ?_); (refine wplV (.int _ (((a + 20 + 20 : Nat) : Int))) (V.as (V.addI rfl rfl (by omega)) (by omega)) rfl ?_; go_step)) | ((with_reducible refine gt9 _ (.call ⟨.value (.func 100), _, _⟩) ?_); refine wpl_call (f := 100) Tryd.call100 kr9 ?_; refine ⟨_, (HC.out _ hS), ?_⟩; rintro e w ⟨rfl, Z, hZ1, hZ2, hS2⟩; replace hS := hS2; clear hS2; refine ⟨_, rfl, ?_⟩; refine put_move ?_; go_step) | (refine y91 ?_) | ((with_reducible refine gs9 13 ?_); (refine wvv9 (V.leq rfl rfl) ?_; go_step)) | ((fail_if_success with_reducible refine ga9 ?_); go_step))
    go_roundg (gk - 1)
    case measure => omega
    case rel =>
     refine ⟨k + 1, a + 20, Z, by omega, by omega, by omega, rfl, by go_num, fun j hj => ?_, HR.out.trans (hZ2.wide (by omega) (by omega) (by omega) (by omega)), hS⟩
     by_cases hjk : j = k
     · subst hjk; rw [← ha]; exact hZ1
     · exact (HA.out j (by omega)).same fun x k1 k2 => hZ2.out x (by omega)
  · have HC := hid (fun (w : World) (hS : St W w (pks g n c Q :: rs')) => insSort_any W w (pks g n c Q :: rs') rs' g n c a n Q hS Pull.head (by omega) (by omega) (by omega))
    repeat' (first
     | (refine y9146 ?_) | ((with_reducible refine gs9 13 ?_); (refine wvv9 (V.leq rfl rfl) ?_; go_step)) | ((fail_if_success with_reducible refine ga9 ?_); go_step))
    repeat' (first
     | ((with_reducible refine gt9 _ (.call ⟨.value (.func 100), _, _⟩) ?_); refine wpl_call (f := 100) Tryd.call100 kr9 ?_; refine ⟨_, (HC.out _ hS), ?_⟩; rintro e w ⟨rfl, Z, hZ1, hZ2, hS2⟩; replace hS := hS2; clear hS2; refine ⟨_, rfl, ?_⟩; refine put_move ?_; go_step) | ((fail_if_success with_reducible refine ga9 ?_); go_step))
    have hB : Blks 20 n Z := fun j => by
     by_cases h1 : j < k
     · exact ((HA.out j h1).same fun x k1 k2 => hZ2.out x (by omega)).sub (Nat.le_refl _) (Nat.min_le_left _ _)
     · by_cases h2 : j = k
       · subst h2; rw [← ha]; exact hZ1.sub (Nat.le_refl _) (Nat.min_le_right _ _)
       · exact asc_void (by omega)
    have hRZ : Rg 0 n P Z := HR.out.trans (hZ2.wide (by omega) (by omega) (by omega) (by omega))
    have HB := hid hB
    have HRZ := hid hRZ
    clear hB hRZ HR HA HC hZ1 hZ2
    go_loopg [6] (n - 20) (fun gk sv w => ∃ (s : Nat) (Q : List PkV), gk + s = max n s ∧ 1 ≤ s ∧ s ≤ 2 * n + 20 ∧ sv = .int .i64 s ∧ Blks s n Q ∧ Rg 0 n P Q ∧ St W w (pks g n c Q :: rs'))
    case atStart => exact ⟨20, Z, by omega, by omega, by omega, rfl, HB.out, HRZ.out, hS⟩
    case round =>
     clear hS HB HRZ
     obtain ⟨s, Q, hk, hs1, hs2, rfl, hB, hR, hS⟩ := hrel
     have HB := hid hB
     have HR := hid hR
     have hQl := hR.len
     clear hB hR
     by_cases hlt2 : s < n
     · obtain ⟨gk1, hgk1⟩ : ∃ x, x = gk := ⟨_, rfl⟩
       subst hgk1
       obtain ⟨t, ht⟩ : ∃ t, t = 2 * s := ⟨_, rfl⟩
       repeat' (first
        | ((with_reducible refine gs9 32 ?_); (refine wplV (.int _ (((t : Nat) : Int))) (V.as (V.mulI rfl rfl (by omega)) (by omega)) rfl ?_; go_step)) | (refine y91 ?_) | ((with_reducible refine gs9 30 ?_); (refine wvv9 (V.lss rfl rfl) ?_; go_step)) | ((fail_if_success with_reducible refine ga9 ?_); go_step))
       go_loopg [7, 8] n (fun gk av bv w => ∃ (k a : Nat) (Q : List PkV), gk + k = n ∧ a = k * t ∧ a ≤ n ∧ av = .int .i64 a ∧ bv = .int .i64 (a + t : Nat) ∧ (∀ j, j < k → Asc PkV.w (j * t) (j * t + t) Q) ∧ (∀ j, 2 * k ≤ j → Asc PkV.w (j * s) (min (j * s + s) n) Q) ∧ Rg 0 n P Q ∧ St W w (pks g n c Q :: rs'))
       case atStart => exact ⟨0, 0, Q, by omega, by omega, by omega, rfl, by rw [Nat.zero_add], fun j h => by omega, fun j _ => HB.out j, HR.out, hS⟩
       case round =>
        clear hS HB HR
        obtain ⟨k, a, Q, hk3, ha, han, rfl, rfl, hA, hA2, hR, hS⟩ := hrel
        have hQl := hR.len
        have m1 : 2 * k * s = a := by rw [ha, ht, Nat.mul_comm 2 k, Nat.mul_assoc]
        have m2 : (2 * k + 1) * s = a + s := by rw [Nat.add_mul, m1, Nat.one_mul]
        have m3 : (k + 1) * t = a + t := by rw [Nat.add_mul, Nat.one_mul, ← ha]
        have m4 : ∀ j, 2 * k + 2 ≤ j → a + t ≤ j * s := fun j hj => by
         have := Nat.mul_le_mul_right s hj
         rw [show (2 * k + 2) * s = a + t by rw [Nat.add_mul, m1, ht]] at this
         exact this
        have m5 : ∀ j, j < k → j * t + t ≤ a := fun j hj => by
         have := Nat.mul_le_mul_right t hj
         rw [Nat.succ_mul, ← ha] at this
         exact this
        have m6 : ∀ j, k < j → a + t ≤ j * t := fun j hj => by
         have := Nat.mul_le_mul_right t hj
         rw [show (k.succ) * t = a + t from m3] at this
         exact this
        have hkt : k ≤ k * t := Nat.le_mul_of_pos_right k (by omega)
        rw [← ha] at hkt
        have a1 := hA2 (2 * k) (Nat.le_refl _)
        have a2 := hA2 (2 * k + 1) (by omega)
        rw [m1] at a1
        rw [m2] at a2
        have HA := hid hA
        have HA2 := hid hA2
        have HR := hid hR
        have M3 := hid m3
        have M4 := hid m4
        have M5 := hid m5
        have M6 := hid m6
        have Ha := hid ha
        clear hA hA2 hR m1 m2 m3 m4 m5 m6 ha
        by_cases hlt : a + t ≤ n
        · have HC := hid (fun (w : World) (hS : St W w (pks g n c Q :: rs')) => symMerge_any n W w (pks g n c Q :: rs') rs' g n c a (a + s) (a + t) Q (by omega) hS Pull.head (by omega) (by omega) hlt (by omega) (asc_eq a1 rfl (by omega)) (asc_eq a2 rfl (by omega)))
          clear a1 a2
          repeat' (first
           | ((with_reducible refine gs9 40 ?_); (refine wplV (.int _ (((a + s : Nat) : Int))) (V.as (V.addI rfl rfl (by omega)) (by omega)) rfl ?_; go_step)) | ((with_reducible refine gs9 47 ?_); (refine wplV (.int _ (((t : Nat) : Int))) (V.as (V.mulI rfl rfl (by omega)) (by omega)) rfl ?_; go_step)) | ((with_reducible refine gs9 48 ?_); (refine wplV (.int _ (((a + t + t : Nat) : Int))) (V.as (V.addI rfl rfl (by omega)) (by omega)) rfl ?_; go_step)) | ((with_reducible refine gt9 _ (.call ⟨.value (.func 101), _, _⟩) ?_); refine wpl_call (f := 101) Tryd.call101 kr9 ?_; refine ⟨_, (HC.out _ hS), ?_⟩; rintro e w ⟨rfl, Z, hZ1, hZ2, hS2⟩; replace hS := hS2; clear hS2; refine ⟨_, rfl, ?_⟩; refine put_move ?_; go_step) | (refine y91 ?_) | (refine y958 ?_) | ((fail_if_success with_reducible refine ga9 ?_); go_step))
          go_roundg (gk - 1)
          case measure => omega
          case rel =>
           refine ⟨k + 1, a + t, Z, by omega, M3.out.symm, by omega, rfl, by go_num, fun j hj => ?_, fun j hj => ?_, HR.out.trans (hZ2.wide (by omega) (by omega) (by omega) (by omega)), hS⟩
           · by_cases hjk : j = k
             · subst hjk; rw [← Ha.out]; exact hZ1
             · have := M5.out j (by omega)
               exact (HA.out j (by omega)).same fun x k1 k2 => hZ2.out x (by omega)
           · have := M4.out j (by omega)
             exact (HA2.out j (by omega)).same fun x k1 k2 => hZ2.out x (by omega)
        · have HF : Hid (∀ Z, Asc PkV.w a n Z → Rg a n Q Z → Blks t n Z ∧ Rg 0 n P Z) := fun Z hZ1 hZ2 => ⟨fun j => by
           by_cases h1 : j < k
           · have := M5.out j h1
             exact ((HA.out j h1).same fun x k1 k2 => hZ2.out x (by omega)).sub (Nat.le_refl _) (Nat.min_le_left _ _)
           · by_cases h2 : j = k
             · subst h2; rw [← Ha.out]; exact hZ1.sub (Nat.le_refl _) (Nat.min_le_right _ _)
             · have := M6.out j (by omega)
               exact asc_void (by omega), HR.out.trans (hZ2.wide (by omega) (by omega) (by omega) (by omega))⟩
          by_cases hm : a + s < n
          · have HC := hid (fun (w : World) (hS : St W w (pks g n c Q :: rs')) => symMerge_any n W w (pks g n c Q :: rs') rs' g n c a (a + s) n Q (by omega) hS Pull.head (by omega) hm (by omega) (by omega) (asc_eq a1 rfl (by omega)) (asc_eq a2 rfl (by omega)))
            clear a1 a2
            repeat' (first
             | (refine y9146 ?_) | (refine y958 ?_) | ((fail_if_success with_reducible refine ga9 ?_); go_step))
            repeat' (first
             | (refine y967 ?_) | (refine y981 ?_) | ((with_reducible refine gt9 _ (.call ⟨.value (.func 101), _, _⟩) ?_); refine wpl_call (f := 101) Tryd.call101 kr9 ?_; refine ⟨_, (HC.out _ hS), ?_⟩; rintro e w ⟨rfl, Z, hZ1, hZ2, hS2⟩; replace hS := hS2; clear hS2; refine ⟨_, rfl, ?_⟩; refine put_move ?_; go_step) | (refine y91 ?_) | ((with_reducible refine gs9 54 ?_); (refine wvv9 (V.lss rfl rfl) ?_; go_step)) | ((fail_if_success with_reducible refine ga9 ?_); go_step))
            obtain ⟨b1, b2⟩ := HF.out Z hZ1 hZ2
            go_roundg (n - t)
            case measure => omega
            case rel => exact ⟨t, Z, by omega, by omega, by omega, by go_num, b1, b2, hS⟩
          · obtain ⟨b1, b2⟩ := HF.out Q (asc_eq a1 rfl (by omega)) (Rg.refl _ _ _)
            have B1 := hid b1
            have B2 := hid b2
            clear a1 a2 b1 b2
            repeat' (first
             | (refine y9146 ?_) | (refine y958 ?_) | ((fail_if_success with_reducible refine ga9 ?_); go_step))
            repeat' (first
             | (refine y967 ?_) | (refine y91 ?_) | ((with_reducible refine gs9 54 ?_); (refine wvv9 (V.lss rfl rfl) ?_; go_step)) | ((fail_if_success with_reducible refine ga9 ?_); go_step))
            repeat' (first
             | (refine y981 ?_) | (refine y92 ?_) | ((fail_if_success with_reducible refine ga9 ?_); go_step))
            go_roundg (n - t)
            case measure => omega
            case rel => exact ⟨t, Q, by omega, by omega, by omega, by go_num, B1.out, B2.out, hS⟩
     · skip
       repeat' (first
        | (refine y9146 ?_) | ((with_reducible refine gs9 30 ?_); (refine wvv9 (V.lss rfl rfl) ?_; go_step)) | ((fail_if_success with_reducible refine ga9 ?_); go_step))
       go_end0
       have := HB.out 0
       rw [Nat.zero_mul, Nat.zero_add] at this
       exact ⟨rfl, Q, this.sub (Nat.le_refl _) (by omega), HR.out, hS⟩
theorem sortStable_any (W w0 : World) (rs rs' : List Res) (g n c : Nat) (P : List PkV) (hS : St W w0 rs) (hp : Pull (pks g n c P) rs rs') (hn : n ≤ 100000) :
 Calls Tryd.prog 66 #[.slice (some ⟨g, 0, none⟩) n c, byW] w0 fun e w => e = .returned (.tuple #[]) ∧ ∃ Q, Q.Perm P ∧ Q.Pairwise (fun a b => a.w ≤ b.w) ∧ St W w (pks g n c Q :: rs') := by
 replace hS := hS.pull hp
 have hPl := own_recs hS Pull.head pkE_len (by decide)
 have HC := hid (fun (w : World) (hS : St W w (pks g n c P :: rs')) => stable_any W w (pks g n c P :: rs') rs' g n c P hS Pull.head hn)
 clear hp
 go_enter Tryd.func66, Tryd.ntmps66
 repeat' (first
  | ((with_reducible refine gt9 _ (.call ⟨.value (.func 84), _, _⟩) ?_); refine wpl_call (f := 84) Tryd.call84 kr9 ?_; refine ⟨_, (HC.out _ hS), ?_⟩; rintro e w ⟨rfl, Z, hZ1, hZ2, hS2⟩; replace hS := hS2; clear hS2; refine ⟨_, rfl, ?_⟩; refine put_move ?_; go_step) | (refine y9146 ?_) | ((with_reducible refine gt9 _ (.call ⟨.builtin .len, _, _⟩) ?_); (refine wvv9 (V.len Tryd.underlying134 rfl) ?_; go_step)) | ((fail_if_success with_reducible refine ga9 ?_); go_step))
 go_end0
 rw [← hPl] at hZ1 hZ2
 have hl := hZ2.len
 exact ⟨rfl, Z, hZ2.all, Asc.pair (hl.symm ▸ hZ1), hS⟩

set_option maxRecDepth 100000
open Go.RowKit
set_option linter.unusedVariables false
theorem cutAt_zero (g c s : Nat) : cutAt (some ⟨g, 0, none⟩) c 0 s = some ⟨g, 0, none⟩ := by
 unfold cutAt
 split
 · rfl
 · rw [Option.map_some, Addr.add_mid, Nat.zero_mul]
section
variable {P : Program} {W w : World} {rs rs' : List Res} {Q : Exit → Act → World → Prop} {K : Act → World → Prop} {o : Oper} {a : Act}
theorem wp_appendZ (hS : St W w rs) (s x : Operand) (t tn : TypeId) (ho : o.op = .call { callee := .builtin .append, args := #[s, x], argTypes := #[t, tn] }) (e : TypeId) (b : Nat) (k : IntKind) (el : ElemZ P t e k 1 b) (kn : IntKind) (htn : P.underlying tn = some (.int kn))
 (hs : a.eval s = .slice none 0 0) (k2 : IntKind) (n : Nat) (hx : a.eval x = .int k2 n) (h0 : 0 < n) (h63 : n ≤ maxLen) (hb : n * b ≤ 281474976710656)
 (h : ∀ g c' w', n ≤ c' → c' ≤ maxLen → St W w' (own e 1 (some ⟨g, 0, none⟩) 0 c' [] :: rs) → K (a.put o.dst (.slice (some ⟨g, 0, none⟩) n c')) w') : o.wp P a w K Q := by
 obtain ⟨ht, ⟨i, z, hi, hz, hsz, hby, hzc⟩, _⟩ := el
 have hr := Lib.run_append_nil_zeros (P := P) w t tn o.type e i z k2 kn ht htn hi hz n h0 (by omega) (by unfold maxLen at h63; omega) (by rw [hby]; exact hb)
 have hg1 := grownCap_ge w n 0 e
 have hg2 := grownCap_le_maxLen w n 0 e h63
 obtain ⟨G, hG⟩ : ∃ G, grownCap w n 0 e = G := ⟨_, rfl⟩
 rw [hG] at hr hg1 hg2
 refine Lib.wp_append_run w s x t tn ho _ _ hs hx _ _ hr (h _ _ _ hg1 hg2 ?_)
 have hS2 := hS.drew
 obtain ⟨h1, f, h2, h3, h4⟩ := hS2
 refine ⟨h1.alloc _, w.heap.size :: f, List.nodup_cons.2 ⟨fun hm => by have := h4.lt _ hm; exact absurd this (Nat.lt_irrefl _), h2⟩, fun b hb => ?_, [w.heap.size], f, rfl, ⟨rfl, rfl, .inr ⟨w.heap.size, G, _, rfl, Nat.zero_le _, heap_alloc_new w.drew _, Nat.zero_le _, hg2, ?_, by simp⟩⟩, h4.loc fun b hb => ?_⟩
 · rcases List.mem_cons.1 hb with h | h
   · rw [h]; exact h1.sz
   · exact h3 b h
 · rw [Array.size_append, size_zeroCells, size_zeroCells, hzc, Array.size_replicate]; omega
 · exact heap_alloc_old w.drew _ (h4.lt b hb)
end
theorem V.cap {P : Program} {a : Act} {x : Operand} {t ty : TypeId} {ad : Option Addr} {n c : Nat} {e : TypeId} (ht : P.underlying t = some (.slice e)) (hx : a.eval x = .slice ad n c) : Val P (.call { callee := .builtin .cap, args := #[x], argTypes := #[t] }) ty a (.int .i64 c) := fun d pos af g w => by
 have e : P.elem t = e := by simp [Program.elem, ht]
 have e2 := run_cap_slice (P := P) w t ty ad n c (by rw [e]; exact ht)
 simp only [execOp, resolve, invoke, builtin, Sem.run_bind, Sem.run_pure, Result.andThen_ok, List.map_toArray, List.map_cons, List.map_nil, hx, e2]
 rfl
theorem grow_any (w0 : World) (n : Nat) (hn : n ≤ 1000000) : Calls Tryd.prog 86 #[.slice none 0 0, .int .i64 n] w0 fun e w => ∃ (ad : Option Addr) (c : Nat), e = .returned (.slice ad 0 c) ∧ St w0 w [own 3 1 ad 0 c []] := by
 have hS := St.start w0
 go_enter Tryd.func86, Tryd.ntmps86
 by_cases h0 : n = 0
 · subst h0
   repeat' (first
    | (refine y91 ?_) | ((with_reducible refine gs9 6 ?_); (refine wvv9 (V.lss rfl rfl) ?_; go_step)) | ((fail_if_success with_reducible refine ga9 ?_); go_step))
   repeat' (first
    | (refine y916 ?_) | ((with_reducible refine gs9 14 ?_); (refine wplV (.int _ (0)) (V.as (V.subI rfl rfl (by omega)) (by omega)) rfl ?_; go_step)) | (refine y91 ?_) | ((with_reducible refine gs9 10 ?_); (refine wvv9 (V.cap Tryd.underlying24 rfl) ?_; go_step)) | ((with_reducible refine gs9 12 ?_); (refine wvv9 (V.len Tryd.underlying24 rfl) ?_; go_step)) | ((with_reducible refine gs9 16 ?_); (refine wvv9 (V.gtr rfl rfl) ?_; go_step)) | ((fail_if_success with_reducible refine ga9 ?_); go_step))
   repeat' (first
    | ((fail_if_success with_reducible refine ga9 ?_); go_step))
   go_ret
   exact ⟨none, 0, rfl, hS.nil 3 1⟩
 · skip
   repeat' (first
    | (refine y91 ?_) | ((with_reducible refine gs9 6 ?_); (refine wvv9 (V.lss rfl rfl) ?_; go_step)) | ((fail_if_success with_reducible refine ga9 ?_); go_step))
   repeat' (first
    | (refine y916 ?_) | ((with_reducible refine gs9 14 ?_); (refine wplV (.int _ (((n : Nat) : Int))) (V.as (V.subI rfl rfl (by omega)) (by omega)) rfl ?_; go_step)) | (refine y91 ?_) | ((with_reducible refine gs9 10 ?_); (refine wvv9 (V.cap Tryd.underlying24 rfl) ?_; go_step)) | ((with_reducible refine gs9 12 ?_); (refine wvv9 (V.len Tryd.underlying24 rfl) ?_; go_step)) | ((with_reducible refine gs9 16 ?_); (refine wvv9 (V.gtr rfl rfl) ?_; go_step)) | ((fail_if_success with_reducible refine ga9 ?_); go_step))
   repeat' (first
    | ((with_reducible refine gs9 20 ?_); refine wplV (.slice none 0 0) (V.slice Tryd.underlying24 isz3 rfl .none (.some rfl (show IsN ((0 : Nat) : Int) 0 from rfl)) (Nat.le_refl _) (Nat.le_refl _)) kr9 ?_; go_step) | ((with_reducible refine gs9 22 ?_); refine wl9 ?_; refine wp_appendZ (o := ⟨some 22, _, _, _, _, _⟩) hS _ _ 24 3 rfl 3 8 .i64 elz24 .i64 Tryd.underlying3 rfl .i64 n rfl (by omega) (by unfold maxLen; omega) (by omega) ?_; clear hS; intro g22 c22 w hc1 hc2 hS; refine put_move ?_; go_step) | (refine y91 ?_) | ((with_reducible refine gs9 19 ?_); (refine wvv9 (V.cap Tryd.underlying24 rfl) ?_; go_step)) | ((with_reducible refine gs9 24 ?_); (refine wvv9 (V.len Tryd.underlying24 rfl) ?_; go_step)) | ((with_reducible refine gs9 25 ?_); (refine wvv9 (V.slice Tryd.underlying24 isz3 rfl (by (first | exact Lo.none | exact Lo.some rfl isn9)) (by (first | exact Up.none | exact Up.some rfl isn9)) (by omega) (by omega)) ?_; go_step)) | ((fail_if_success with_reducible refine ga9 ?_); go_step))
   go_ret
   refine ⟨some ⟨g22, 0, none⟩, c22, ?_, hS⟩
   show Ending.returned (.slice (cutAt (some ⟨g22, 0, none⟩) c22 0 1) (0 - 0) (c22 - 0)) = _
   rw [cutAt_zero]
   rfl
theorem Pull.mem2 : ∀ (ss rs : List Res) (r : Res), ∃ ss', Pull r (ss ++ r :: rs) ss'
 | [], rs, r => ⟨rs, .head⟩
 | x :: ss, rs, r => by obtain ⟨s, hs⟩ := Pull.mem2 ss rs r; exact ⟨x :: s, .tail hs⟩
theorem pkE_all (P : List PkV) : ∀ u ∈ P.flatMap pkE, u.oneCell' = true := fun u hu => by
 obtain ⟨p, _, h⟩ := List.mem_flatMap.1 hu
 simp only [pkE, List.mem_cons, List.mem_nil_iff, or_false] at h
 rcases h with rfl | rfl <;> rfl
theorem V.eqlNilS {P : Program} {a : Act} {x y : Operand} {t ty u e : TypeId} {ad : Option Addr} {n c : Nat} (ht : P.underlying t = some (.slice e)) (hg : P.eqGuardType P.depth t = false) (hx : a.eval x = .slice ad n c) (hy : a.eval y = .slice none 0 0) : Val P (.binOp .eql t x y u) ty a (.bool ad.isNone) := fun d pos af g w => by
 have e1 : (eqGuard .eql t x y (.slice ad n c) (.slice none 0 0)).run P w = .ok () w := by
  unfold eqGuard
  simp
 have e2 : (binOp .eql t (.slice ad n c) (.slice none 0 0)).run P w = .ok (.bool ad.isNone) w := by
  have : binOp .eql t (.slice ad n c) (.slice none 0 0) = (do pure (.bool (← Op.equal t (.slice ad n c) (.slice none 0 0)))) := rfl
  rw [this]
  simp only [Sem.run_bind, run_equal_slice_nil w t e ad n c ht, Result.andThen_ok, Sem.run_pure]
 simp only [execOp, hx, hy, Sem.run_bind, e1, Result.andThen_ok, e2, Sem.run_pure]
section
variable {P : Program} {W w : World} {rs rs' : List Res} {Q : Exit → Act → World → Prop} {K : Act → World → Prop} {o : Oper} {a : Act}
theorem wp_buildSlice0 (hS : St W w rs) (t : TypeId) (ho : o.op = .buildSlice t 0 #[]) (e : TypeId) (s b : Nat) (el : ElemT P t e s b)
 (h : ∀ g w', St W w' (own e s (some ⟨g, 0, none⟩) 0 0 [] :: rs) → K (a.put o.dst (.slice (some ⟨g, 0, none⟩) 0 0)) w') : o.wp P a w K Q := by
 obtain ⟨ht, ⟨i, z, hi, hz, hsz, hb, hzs⟩, hp⟩ := el
 have hr : (Instr.buildSlice t 0 #[]).run P w = .ok (.slice (some ⟨w.heap.size, 0, none⟩) 0 0) (w.alloc (.cells #[] e)) := by
  simp [Instr.buildSlice, run_underlying ht, sizeOf, typeInfo, hi, Instr.fill, newRow]
  rw [Array.eq_empty_of_size_eq_zero (xs := Array.map (fun x => default) (Array.range 0)) (by simp)]
 have hst := hS.allocOwn e s 0 [] (by simp) (Nat.zero_le _)
 unfold Oper.wp execOp
 simp only [ho, Sem.run_bind, Array.map_empty, hr, Result.andThen_ok, Sem.run_pure]
 exact h _ _ hst
end
theorem clone_any (W w0 : World) (rs rs' : List Res) (g n c : Nat) (P : List PkV) (hS : St W w0 rs) (hp : Pull (pks g n c P) rs rs') (hn : n ≤ 100000) (hn0 : 0 < n) :
 Calls Tryd.prog 68 #[.slice (some ⟨g, 0, none⟩) n c] w0 fun e w => ∃ (g' c' : Nat), e = .returned (.slice (some ⟨g', 0, none⟩) n c') ∧ St W w (pks g' n c' P :: pks g n c P :: rs') := by
 replace hS := hS.pull hp
 go_enter Tryd.func68, Tryd.ntmps68
 have he := pkE_len
 have hsl : ∀ w rs2, St W w (rs2 ++ pks g n c P :: rs') → Sl w 2 (.slice (some ⟨g, 0, none⟩) n c) n (P.flatMap pkE) := fun w rs2 h => by
  obtain ⟨ss', hp⟩ := Pull.mem2 rs2 rs' (pks g n c P)
  exact h.sl hp
 repeat' (first
  | ((with_reducible refine gs9 4 ?_); refine wplV (.bool false) (V.eqlNilS (ad := some ⟨g, 0, none⟩) (n := n) (c := c) Tryd.underlying134 kr9 rfl rfl) kr9 ?_; go_step) | (refine y91 ?_) | ((fail_if_success with_reducible refine ga9 ?_); go_step))
 repeat' (first
  | ((with_reducible refine gs9 5 ?_); refine wl9 ?_; refine wp_buildSlice0 (o := ⟨some 5, _, _, _, _, _⟩) hS 134 rfl 133 2 32 el134 ?_; clear hS; intro g5 w hS; refine put_move ?_; go_step) | ((with_reducible refine gs9 7 ?_); refine wl9 ?_; refine wp_append (o := ⟨some 7, _, _, _, _, _⟩) hS _ _ 134 rfl 133 2 32 el134 _ _ _ _ rfl .head _ rfl n _ (hsl _ [_] hS) (pkE_all P) (by unfold maxLen; omega) (by omega) ?_; clear hS; intro ad7 c7 w hS; refine put_move ?_; go_step) | (refine y91 ?_) | ((fail_if_success with_reducible refine ga9 ?_); go_step))
 go_ret
 rw [Nat.zero_add, List.nil_append] at hS
 obtain ⟨g', rfl⟩ := own_some hS .head hn0
 refine ⟨g', c7, ?_, hS⟩
 show Ending.returned (.slice (some ⟨g', 0, none⟩) (0 + n) c7) = _
 rw [Nat.zero_add]
structure Sr where
 ad : Option Addr
 c : Nat
 xs : List Int
def Sr.val (p : Sr) : Value := .slice p.ad p.xs.length p.c
def Sr.res (p : Sr) : Res := own 3 1 p.ad p.xs.length p.c (p.xs.map (Value.int .i64))
def flat (R : List Sr) (k : Nat) : List Int := (R.take k).flatMap (·.xs)
theorem flat_succ (R : List Sr) (k : Nat) (r : Sr) (h : R[k]? = some r) : flat R (k + 1) = flat R k ++ r.xs := by
 obtain ⟨hk, e⟩ := List.getElem?_eq_some_iff.1 h
 unfold flat
 rw [List.take_succ_eq_append_getElem hk, List.flatMap_append, e]
 simp
theorem flat_le (R : List Sr) (k : Nat) : (flat R k).length ≤ (R.flatMap (·.xs)).length := by
 have : R.flatMap (·.xs) = (R.take k).flatMap (·.xs) ++ (R.drop k).flatMap (·.xs) := by rw [← List.flatMap_append, List.take_append_drop]
 rw [this, List.length_append]
 unfold flat
 omega
set_option maxHeartbeats 4000000 in
theorem concat_any (w0 : World) (g m mc : Nat) (R : List Sr) (hv : Sl w0 1 (.slice (some ⟨g, 0, none⟩) m mc) m (R.map Sr.val)) (hr : ∀ r ∈ R, Sl w0 1 r.val r.xs.length (r.xs.map (Value.int .i64))) (hm : m ≤ 1000) (hb : (R.flatMap (·.xs)).length ≤ 1000000) :
 Calls Tryd.prog 69 #[.slice (some ⟨g, 0, none⟩) m mc] w0 fun e w => ∃ (ad : Option Addr) (c : Nat), e = .returned (.slice ad (R.flatMap (·.xs)).length c) ∧ St w0 w [own 3 1 ad (R.flatMap (·.xs)).length c ((R.flatMap (·.xs)).map (Value.int .i64))] := by
 have hS := St.start w0
 have hRl : R.length = m := by have := hv.1; simpa using this
 have HC : Hid (∀ k r, k < m → R[k]? = some r → w0.cell? ⟨g, k, none⟩ = some (.slice r.ad r.xs.length r.c)) := fun k r hk h => by
  obtain ⟨_, a1, c1, e1, _, _, hor⟩ := hv
  cases e1
  rcases hor with h0 | ⟨b0, o0, e2, hc⟩
  · omega
  · cases e2
    have := hc k (by omega)
    rw [Nat.zero_add, List.getElem?_map, h] at this
    exact this
 have HR := hid hr
 have HF : Hid (flat R m = R.flatMap (·.xs)) := by unfold Hid; unfold flat; rw [← hRl, List.take_length]
 have HL : Hid (∀ k, (flat R k).length ≤ 1000000) := fun k => Nat.le_trans (flat_le R k) hb
 rw [← HF.out]
 clear hv hr hb
 go_enter Tryd.func69, Tryd.ntmps69
 repeat' (first
  | (refine y91 ?_) | ((with_reducible refine gs9 10 ?_); (refine wvv9 (V.len Tryd.underlying160 rfl) ?_; go_step)) | ((fail_if_success with_reducible refine ga9 ?_); go_step))
 go_loopg [3, 11] m (fun gk sv iv w => ∃ (k L : Nat), gk + k = m ∧ L = (flat R k).length ∧ iv = .int .i64 k ∧ sv = .int .i64 L ∧ St w0 w [])
 case atStart => exact ⟨0, 0, by omega, rfl, rfl, rfl, hS⟩
 case round =>
  clear hS
  obtain ⟨k, L, hk, hL, rfl, rfl, hS⟩ := hrel
  have hL0 := HL.out k
  rw [← hL] at hL0
  by_cases hlt : k < m
  · obtain ⟨r, hr⟩ : ∃ r, R[k]? = some r := ⟨_, List.getElem?_eq_getElem (by omega)⟩
    have hc := HC.out k r hlt hr
    have hf := congrArg List.length (flat_succ R k r hr)
    rw [List.length_append, ← hL] at hf
    have hL1 := HL.out (k + 1)
    obtain ⟨N, hN⟩ : ∃ N, r.xs.length = N := ⟨_, rfl⟩
    rw [hN] at hf hc
    have HFk := hid hf
    rw [hf] at hL1
    clear hf hN hr
    repeat' (first
     | (refine y91 ?_) | (refine y913 ?_) | ((with_reducible refine gs9 13 ?_); (refine wvv9 (V.indexSl Tryd.underlying160 isz24 rfl rfl isn9 (by omega) (Nat.mul_one _) nq9) ?_; go_step)) | (refine y9119 ?_) | ((fail_if_success with_reducible refine ga9 ?_); go_step))
    repeat' (first
     | ((with_reducible refine gs9 18 ?_); (refine wplV (.int _ (((L + N : Nat) : Int))) (V.as (V.addI rfl rfl (by omega)) (by omega)) rfl ?_; go_step)) | (refine y91 ?_) | (refine y935 ?_) | ((with_reducible refine gs9 20 ?_); (refine wvv9 (V.lss rfl rfl) ?_; go_step)) | ((fail_if_success with_reducible refine ga9 ?_); go_step))
    repeat' (first
     | ((with_reducible refine gs9 22 ?_); (refine wplV (.int _ (((k + 1 : Nat) : Int))) (V.as (V.addI rfl rfl (by omega)) (by omega)) rfl ?_; go_step)) | (refine y9146 ?_) | ((fail_if_success with_reducible refine ga9 ?_); go_step))
    go_roundg (gk - 1)
    case measure => omega
    case rel => exact ⟨k + 1, L + N, by omega, HFk.out.symm, by go_num, rfl, hS⟩
  · obtain rfl : k = m := by omega
    repeat' (first
     | (refine y9146 ?_) | (refine y913 ?_) | ((fail_if_success with_reducible refine ga9 ?_); go_step))
    repeat' (first
     | ((with_reducible refine gt9 _ (.call ⟨.value (.func 86), _, _⟩) ?_); refine wpl_call (f := 86) Tryd.call86 kr9 ?_; refine ⟨_, (grow_any _ L (by omega)), ?_⟩; rintro e w ⟨ad, cc, rfl, hS2⟩; replace hS := hS.call1 hS2; clear hS2; refine ⟨_, rfl, ?_⟩; refine put_move ?_; go_step) | (refine y91 ?_) | ((with_reducible refine gs9 26 ?_); (refine wvv9 (V.len Tryd.underlying160 rfl) ?_; go_step)) | ((fail_if_success with_reducible refine ga9 ?_); go_step))
    go_loopg [6, 27] k (fun gk sv iv w => ∃ (j M : Nat) (aa : Option Addr) (ca : Nat), gk + j = k ∧ M = (flat R j).length ∧ iv = .int .i64 j ∧ sv = .slice aa M ca ∧ St w0 w [own 3 1 aa M ca ((flat R j).map (Value.int .i64))])
    case atStart => exact ⟨0, 0, ad, cc, by omega, rfl, rfl, rfl, hS⟩
    case round =>
     clear hS
     obtain ⟨j, M, aa, ca, hj, hM, rfl, rfl, hS⟩ := hrel
     have hM0 := HL.out j
     rw [← hM] at hM0
     by_cases hlt2 : j < k
     · obtain ⟨r, hr⟩ : ∃ r, R[j]? = some r := ⟨_, List.getElem?_eq_getElem (by omega)⟩
       have hc := HC.out j r hlt2 hr
       have hsl : Sl w0 1 (.slice r.ad r.xs.length r.c) r.xs.length (r.xs.map (Value.int .i64)) := HR.out r (List.mem_of_getElem? hr)
       have hfe := flat_succ R j r hr
       have hf := congrArg List.length hfe
       rw [List.length_append, ← hM] at hf
       have hM1 := HL.out (j + 1)
       obtain ⟨N, hN⟩ : ∃ N, r.xs.length = N := ⟨_, rfl⟩
       rw [hN] at hf hc hsl
       have HFk := hid hf
       have HFE := hid hfe
       rw [hf] at hM1
       clear hf hN hr hfe
       repeat' (first
        | ((with_reducible refine gs9 34 ?_); (refine wplV (.int _ (((j + 1 : Nat) : Int))) (V.as (V.addI rfl rfl (by omega)) (by omega)) rfl ?_; go_step)) | (refine y91 ?_) | ((with_reducible refine gs9 28 ?_); (refine wvv9 (V.lss rfl rfl) ?_; go_step)) | ((with_reducible refine gs9 29 ?_); (refine wvv9 (V.indexSl Tryd.underlying160 isz24 rfl rfl isn9 (by omega) (Nat.mul_one _) nq9) ?_; go_step)) | (refine y9119 ?_) | ((with_reducible refine gs9 33 ?_); (refine wl9 ?_; apply wp_append (o := ⟨some 33, _, _, _, _, _⟩) hS _ _ 24 rfl 3 1 8 el24 _ _ _ _ rfl; (case hp => exact pl9); (case hx => exact rfl); (case hm => (first | exact hS.slBlk pl9 (by rfl) (by decide) | exact hS.sl pl9 | with_reducible assumption | exact Sl.ext (by with_reducible assumption) hS.1 | exact Sl.nil _ _ | exact Sl.ext (by assumption) hS.1 | assumption)); (case h1 => (first | exact oneAll rfl | exact oneMap _ _ | (intro u hu; cases hu))); (case h63 => unfold maxLen; omega); (case hb => omega); clear hS; intro ad33 c33 w hS; (first | simp only [mapk1] at hS | simp only [mapk2] at hS | simp only [mapk3] at hS | simp only [mapk4] at hS | simp only [mapkl] at hS | skip); refine put_move ?_; go_step)) | ((fail_if_success with_reducible refine ga9 ?_); go_step))
       go_roundg (gk - 1)
       case measure => omega
       case rel => exact ⟨j + 1, M + N, _, _, by omega, HFk.out.symm, by go_num, rfl, by rw [HFE.out]; exact hS.sub sb9⟩
     · obtain rfl : j = k := by omega
       repeat' (first
        | (refine y91 ?_) | ((with_reducible refine gs9 28 ?_); (refine wvv9 (V.lss rfl rfl) ?_; go_step)) | ((fail_if_success with_reducible refine ga9 ?_); go_step))
       repeat' (first
        | ((fail_if_success with_reducible refine ga9 ?_); go_step))
       go_ret
       rw [← hM]
       exact ⟨aa, ca, rfl, hS⟩

end Go.Proofs.YtehbjhocgnfpmaaDoor
/- Packages that are merged (best.Make): what their words' lengths are, in plain lists: KRAFT; no words of at most 16 bits cost less; what weighs more has no longer word. -/
namespace Go.Proofs.YtehbjhocgnfpmaaDoor
set_option linter.unusedVariables false
abbrev Pk := Int × List Int
def wsum (l : List Pk) : Int := (l.map (·.1)).sum
def syl (l : List Pk) : List Int := l.flatMap (·.2)
theorem wsum_nil : wsum [] = 0 := rfl
theorem wsum_cons (x : Pk) (l : List Pk) : wsum (x :: l) = x.1 + wsum l := by simp [wsum]
theorem wsum_append (a b : List Pk) : wsum (a ++ b) = wsum a + wsum b := by simp [wsum]
theorem wsum_perm {a b : List Pk} (h : a.Perm b) : wsum a = wsum b := by
 induction h with
 | nil => rfl
 | cons x _ ih => simp [wsum_cons, ih]
 | swap x y l => simp only [wsum_cons]; omega
 | trans _ _ h1 h2 => rw [h1, h2]
theorem syl_cons (x : Pk) (l : List Pk) : syl (x :: l) = x.2 ++ syl l := by simp [syl]
theorem syl_append (a b : List Pk) : syl (a ++ b) = syl a ++ syl b := by simp [syl]
theorem syl_perm {a b : List Pk} (h : a.Perm b) : (syl a).Perm (syl b) := h.flatMap_right _
def Srt (l : List Pk) : Prop := l.Pairwise (fun a b => a.1 ≤ b.1)
def pjoin (p : Pk × Pk) : Pk := (p.1.1 + p.2.1, p.1.2 ++ p.2.2)
def prs : List Pk → List (Pk × Pk)
 | a :: b :: l => (a, b) :: prs l
 | _ => []
def unp (l : List (Pk × Pk)) : List Pk := l.flatMap fun p => [p.1, p.2]
def pkgs (l : List Pk) : List Pk := (prs l).map pjoin
theorem prs_unp : ∀ (l : List Pk), ∃ z, unp (prs l) ++ z = l ∧ z.length ≤ 1
 | [] => ⟨[], rfl, by simp⟩
 | [a] => ⟨[a], rfl, by simp⟩
 | a :: b :: l => by
  obtain ⟨z, h, hz⟩ := prs_unp l
  exact ⟨z, by simp [prs, unp] at h ⊢; exact h, hz⟩
theorem unp_len (l : List (Pk × Pk)) : (unp l).length = 2 * l.length := by
 induction l with
 | nil => rfl
 | cons x l ih => simp [unp] at ih ⊢; omega
theorem prs_len (l : List Pk) : (prs l).length = l.length / 2 := by
 obtain ⟨z, h, hz⟩ := prs_unp l
 have := congrArg List.length h
 rw [List.length_append, unp_len] at this
 omega
theorem pairs_len (l : List Pk) : (pkgs l).length = l.length / 2 := by simp [pkgs, prs_len]
theorem wsum_join (l : List (Pk × Pk)) : wsum (l.map pjoin) = wsum (unp l) := by
 induction l with
 | nil => rfl
 | cons x l ih => simp only [List.map_cons, wsum_cons, ih, pjoin, unp, List.flatMap_cons, List.cons_append, List.nil_append]; simp only [unp] at *; omega
theorem syl_join (l : List (Pk × Pk)) : syl (l.map pjoin) = syl (unp l) := by
 induction l with
 | nil => rfl
 | cons x l ih => simp only [List.map_cons, syl_cons, ih, pjoin, unp, List.flatMap_cons, List.cons_append, List.nil_append, List.append_assoc]
theorem perm_lift {α β : Type} (f : α → β) {L L0 : List β} (h : L.Perm L0) : ∀ M : List α, M.map f = L0 → ∃ M' : List α, M'.Perm M ∧ M'.map f = L := by
 induction h with
 | nil => intro M e; exact ⟨[], (by cases M with | nil => exact List.Perm.refl _ | cons => cases e), rfl⟩
 | cons x _ ih =>
  intro M e
  cases M with
  | nil => cases e
  | cons m M =>
   simp only [List.map_cons, List.cons.injEq] at e
   obtain ⟨M', h1, h2⟩ := ih M e.2
   exact ⟨m :: M', h1.cons m, by simp [e.1, h2]⟩
 | swap x y l =>
  intro M e
  match M, e with
  | m1 :: m2 :: M, e =>
   simp only [List.map_cons, List.cons.injEq] at e
   exact ⟨m2 :: m1 :: M, List.Perm.swap _ _ _, by simp [e.1, e.2.1, e.2.2]⟩
 | trans _ _ h1 h2 =>
  intro M e
  obtain ⟨M1, p1, e1⟩ := h2 M e
  obtain ⟨M2, p2, e2⟩ := h1 M1 e1
  exact ⟨M2, p2.trans p1, e2⟩
def LiesIn (X R : List Pk) : Prop := ∃ Z, (X ++ Z).Perm R
theorem LiesIn.take (R : List Pk) (m : Nat) : LiesIn (R.take m) R := ⟨R.drop m, by rw [List.take_append_drop]⟩
theorem LiesIn.right {X R Q : List Pk} (h : LiesIn X R) (p : R.Perm Q) : LiesIn X Q := by
 obtain ⟨Z, hz⟩ := h; exact ⟨Z, hz.trans p⟩
theorem LiesIn.app {X Y R Q : List Pk} (h : LiesIn X R) (k : LiesIn Y Q) : LiesIn (X ++ Y) (R ++ Q) := by
 obtain ⟨Z, hz⟩ := h; obtain ⟨U, hu⟩ := k
 refine ⟨Z ++ U, List.Perm.trans ?_ (hz.append hu)⟩
 rw [List.append_assoc, List.append_assoc]
 refine List.Perm.append_left X ?_
 rw [← List.append_assoc, ← List.append_assoc]
 exact List.Perm.append_right U List.perm_append_comm
theorem LiesIn.mem {X R : List Pk} (h : LiesIn X R) {x : Pk} (hx : x ∈ X) : x ∈ R := by
 obtain ⟨Z, hz⟩ := h; exact hz.mem_iff.1 (List.mem_append_left _ hx)
theorem LiesIn.len {X R : List Pk} (h : LiesIn X R) : X.length ≤ R.length := by
 obtain ⟨Z, hz⟩ := h; have := hz.length_eq; rw [List.length_append] at this; omega
theorem LiesIn.unpair {B R : List Pk} (h : LiesIn B (pkgs R)) : ∃ Y, LiesIn Y R ∧ Y.length = 2 * B.length ∧ syl Y = syl B ∧ wsum Y = wsum B ∧ ∃ B', B'.map pjoin = B ∧ Y = unp B' := by
 obtain ⟨Z, hz⟩ := h
 obtain ⟨M, hp, hm⟩ := perm_lift pjoin hz (prs R) rfl
 obtain ⟨B', Z', e, hb, hz'⟩ := List.map_eq_append_iff.1 hm
 obtain ⟨z, hu, _⟩ := prs_unp R
 refine ⟨unp B', ⟨unp Z' ++ z, ?_⟩, by rw [unp_len, ← hb, List.length_map], by rw [← hb, syl_join], by rw [← hb, wsum_join], B', hb, rfl⟩
 have h1 : (unp M).Perm (unp (prs R)) := hp.flatMap_right _
 have h2 : unp M = unp B' ++ unp Z' := by rw [e]; simp [unp]
 rw [← List.append_assoc, ← h2]
 conv => rhs; rw [← hu]
 exact h1.append_right z
theorem take_least : ∀ (R : List Pk), Srt R → (∀ x ∈ R, 0 ≤ x.1) → ∀ (X : List Pk) (m : Nat), LiesIn X R → m ≤ X.length → wsum (R.take m) ≤ wsum X := by
 have nn : ∀ X : List Pk, (∀ x ∈ X, 0 ≤ x.1) → 0 ≤ wsum X := fun X h => by
  induction X with
  | nil => simp [wsum]
  | cons x X ih => rw [wsum_cons]; have := h x (by simp); have := ih fun y hy => h y (by simp [hy]); omega
 intro R
 induction R with
 | nil =>
  intro _ _ X m hX _
  have : X = [] := by have := hX.len; exact List.eq_nil_of_length_eq_zero (by simpa using this)
  subst this; simp [wsum]
 | cons r R ih =>
  intro hs h0 X m hX hm
  cases m with
  | zero => simp only [List.take_zero, wsum_nil]; exact nn X fun x hx => h0 x (hX.mem hx)
  | succ m =>
   obtain ⟨hr, hs'⟩ := List.pairwise_cons.1 hs
   rw [List.take_succ_cons, wsum_cons]
   obtain ⟨Z, hz⟩ := hX
   have hrm : r ∈ X ++ Z := hz.mem_iff.2 (by simp)
   rcases List.mem_append.1 hrm with hx | hx
   · have p := List.perm_cons_erase hx
     have hz2 : (X.erase r ++ Z).Perm R := by
      have : (r :: (X.erase r ++ Z)).Perm (r :: R) := (p.symm.append_right Z).trans hz
      exact this.cons_inv
     have hl := p.length_eq
     rw [List.length_cons] at hl
     have := ih hs' (fun x hx => h0 x (by simp [hx])) (X.erase r) m ⟨Z, hz2⟩ (by omega)
     rw [wsum_perm p, wsum_cons]; omega
   · cases X with
     | nil => simp at hm
     | cons x X =>
      have p := List.perm_cons_erase hx
      have hz2 : (X ++ (x :: Z.erase r)).Perm R := by
       have h1 : (r :: (X ++ (x :: Z.erase r))).Perm (r :: R) := by
        refine List.Perm.trans ?_ hz
        have a1 : (X ++ x :: Z.erase r).Perm (x :: (X ++ Z.erase r)) := List.perm_middle
        have a2 : (r :: (X ++ x :: Z.erase r)).Perm (r :: x :: (X ++ Z.erase r)) := a1.cons r
        refine a2.trans ((List.Perm.swap x r _).trans ?_)
        refine List.Perm.cons x ?_
        have a3 : (r :: (X ++ Z.erase r)).Perm (X ++ r :: Z.erase r) := List.perm_middle.symm
        exact a3.trans (List.Perm.append_left X p.symm)
       exact h1.cons_inv
      have hxr : r.1 ≤ x.1 := by
       have : x ∈ r :: R := hz.mem_iff.1 (by simp)
       rcases List.mem_cons.1 this with e | e
       · rw [e]; exact Int.le_refl _
       · exact hr x e
      have := ih hs' (fun x hx => h0 x (by simp [hx])) X m ⟨_, hz2⟩ (by simp at hm; omega)
      rw [wsum_cons]; omega
inductive RowK (S : List Pk) : Nat → List Pk → Prop
 | one (R : List Pk) (p : R.Perm S) (s : Srt R) : RowK S 1 R
 | more {k : Nat} {R Q : List Pk} (h : RowK S k R) (p : Q.Perm (pkgs R ++ S)) (s : Srt Q) : RowK S (k + 1) Q
theorem RowK.srt {S R : List Pk} {k : Nat} (h : RowK S k R) : Srt R := by cases h <;> assumption
theorem RowK.nonneg {S R : List Pk} {k : Nat} (h0 : ∀ x ∈ S, 0 ≤ x.1) (h : RowK S k R) : ∀ x ∈ R, 0 ≤ x.1 := by
 induction h with
 | one R p _ => exact fun x hx => h0 x (p.mem_iff.1 hx)
 | @more k R Q h p _ ih =>
  intro x hx
  rcases List.mem_append.1 (p.mem_iff.1 hx) with hx | hx
  · obtain ⟨q, hq, rfl⟩ := List.mem_map.1 hx
    obtain ⟨z, hu, _⟩ := prs_unp R
    have hm : ∀ y ∈ unp (prs R), y ∈ R := fun y hy => by rw [← hu]; exact List.mem_append_left _ hy
    have h1 := ih q.1 (hm _ (by simp only [unp, List.mem_flatMap]; exact ⟨q, hq, by simp⟩))
    have h2 := ih q.2 (hm _ (by simp only [unp, List.mem_flatMap]; exact ⟨q, hq, by simp⟩))
    simp only [pjoin]; omega
  · exact h0 x hx
theorem RowK.len {S R : List Pk} {k : Nat} (h : RowK S k R) : R.length ≤ 2 * S.length := by
 induction h with
 | one R p _ => have := p.length_eq; omega
 | more h p _ ih => have := p.length_eq; rw [List.length_append, pairs_len] at this; omega
theorem RowK.long {S R : List Pk} {k : Nat} (h : RowK S k R) (_h1 : 1 ≤ S.length) : 2 * S.length ≤ R.length + 1 + S.length / 2 ^ (k - 1) := by
 induction h with
 | one R p _ => have := p.length_eq; simp; omega
 | @more k R Q h p _ ih =>
  have := p.length_eq; rw [List.length_append, pairs_len] at this
  have hk : 1 ≤ k := by cases h <;> omega
  have e : S.length / 2 ^ (k + 1 - 1) = S.length / 2 ^ (k - 1) / 2 := by
   rw [Nat.div_div_eq_div_mul, ← Nat.pow_succ, show (k - 1).succ = k + 1 - 1 by omega]
  rw [e]; omega
def nsum {α : Type} (f : α → Nat) (l : List α) : Nat := (l.map f).sum
theorem nsum_cons {α : Type} (f : α → Nat) (x : α) (l : List α) : nsum f (x :: l) = f x + nsum f l := by simp [nsum]
theorem nsum_add {α : Type} (f g : α → Nat) (l : List α) : nsum (fun x => f x + g x) l = nsum f l + nsum g l := by
 induction l with
 | nil => rfl
 | cons x l ih => simp only [nsum_cons, ih]; omega
theorem nsum_le {α : Type} (f g : α → Nat) (l : List α) (h : ∀ x ∈ l, f x ≤ g x) : nsum f l ≤ nsum g l := by
 induction l with
 | nil => exact Nat.le_refl _
 | cons x l ih => have := h x (by simp); have := ih fun y hy => h y (by simp [hy]); simp only [nsum_cons]; omega
theorem nsum_congr {α : Type} (f g : α → Nat) (l : List α) (h : ∀ x ∈ l, f x = g x) : nsum f l = nsum g l := by
 induction l with
 | nil => rfl
 | cons x l ih => have := h x (by simp); have := ih fun y hy => h y (by simp [hy]); simp only [nsum_cons]; omega
theorem nsum_mul {α : Type} (f : α → Nat) (c : Nat) (l : List α) : nsum (fun x => f x * c) l = nsum f l * c := by
 induction l with
 | nil => simp [nsum]
 | cons x l ih => simp only [nsum_cons, ih, Nat.add_mul]
theorem nsum_one {α : Type} (p : α → Bool) (l : List α) : nsum (fun x => if p x then 1 else 0) l = (l.filter p).length := by
 induction l with
 | nil => rfl
 | cons x l ih => rw [nsum_cons, ih, List.filter_cons]; by_cases h : p x = true <;> simp [h]; omega
theorem nsum_zero {α : Type} (f : α → Nat) (l : List α) (h : ∀ x ∈ l, f x = 0) : nsum f l = 0 := by
 induction l with
 | nil => rfl
 | cons x l ih => have := h x (by simp); have := ih fun y hy => h y (by simp [hy]); simp only [nsum_cons]; omega
def lng (X : List Pk) (s : Int) : Nat := (syl X).count s
structure Sing (S : List Pk) (ss : List Int) : Prop where
 syms : S.map (·.2) = ss.map fun s => [s]
 nd : ss.Nodup
theorem Sing.len {S : List Pk} {ss : List Int} (h : Sing S ss) : S.length = ss.length := by
 have := congrArg List.length h.syms; simpa using this
theorem Sing.one {S : List Pk} {ss : List Int} (h : Sing S ss) : ∀ x ∈ S, ∃ s ∈ ss, x.2 = [s] := fun x hx => by
 have : x.2 ∈ S.map (·.2) := List.mem_map.2 ⟨x, hx, rfl⟩
 rw [h.syms] at this
 obtain ⟨s, hs, e⟩ := List.mem_map.1 this
 exact ⟨s, hs, e.symm⟩
theorem Sing.syls {S : List Pk} {ss : List Int} (h : Sing S ss) : syl S = ss := by
 have : syl S = (S.map (·.2)).flatten := by simp [syl, List.flatMap]
 rw [this, h.syms]
 clear h this
 induction ss with
 | nil => rfl
 | cons a l ih => rw [List.map_cons, List.flatten_cons, ih]; rfl
theorem RowK.pos {S R : List Pk} {k : Nat} {ss : List Int} (hS : Sing S ss) (h : RowK S k R) : ∀ x ∈ R, 1 ≤ x.2.length := by
 induction h with
 | one R p _ => intro x hx; obtain ⟨s, _, e⟩ := hS.one x (p.mem_iff.1 hx); rw [e]; simp
 | @more k R Q h p _ ih =>
  intro x hx
  rcases List.mem_append.1 (p.mem_iff.1 hx) with hx | hx
  · obtain ⟨q, hq, rfl⟩ := List.mem_map.1 hx
    obtain ⟨z, hu, _⟩ := prs_unp R
    have h1 := ih q.1 (by rw [← hu]; exact List.mem_append_left _ (by simp only [unp, List.mem_flatMap]; exact ⟨q, hq, by simp⟩))
    simp only [pjoin, List.length_append]; omega
  · obtain ⟨s, _, e⟩ := hS.one x hx; rw [e]; simp
theorem LiesIn.parts {S R Q X : List Pk} {k : Nat} {ss : List Int} (hS : Sing S ss) (h : RowK S k R) (p : Q.Perm (pkgs R ++ S)) (hX : LiesIn X Q) :
 ∃ B A, LiesIn B (pkgs R) ∧ LiesIn A S ∧ X.Perm (B ++ A) := by
 obtain ⟨Z, hz⟩ := hX
 have hz := hz.trans p
 have hpos := h.pos hS
 have h1 : ∀ x ∈ pkgs R, decide (2 ≤ x.2.length) = true := fun x hx => by
  obtain ⟨q, hq, rfl⟩ := List.mem_map.1 hx
  obtain ⟨z, hu, _⟩ := prs_unp R
  have e1 := hpos q.1 (by rw [← hu]; exact List.mem_append_left _ (by simp only [unp, List.mem_flatMap]; exact ⟨q, hq, by simp⟩))
  have e2 := hpos q.2 (by rw [← hu]; exact List.mem_append_left _ (by simp only [unp, List.mem_flatMap]; exact ⟨q, hq, by simp⟩))
  simp only [pjoin, List.length_append, decide_eq_true_eq]; omega
 have h2 : ∀ x ∈ S, decide (2 ≤ x.2.length) = false := fun x hx => by obtain ⟨s, _, e⟩ := hS.one x hx; rw [e]; simp
 have f1 := hz.filter (fun x => decide (2 ≤ x.2.length))
 have f2 := hz.filter (fun x => !decide (2 ≤ x.2.length))
 rw [List.filter_append, List.filter_append, List.filter_eq_self.2 h1, (List.filter_eq_nil_iff (l := S)).2 (fun x hx => by rw [h2 x hx]; simp), List.append_nil] at f1
 rw [List.filter_append, List.filter_append, (List.filter_eq_nil_iff (l := pkgs R)).2 (fun x hx => by rw [h1 x hx]; simp), (List.filter_eq_self (l := S)).2 (fun x hx => by rw [h2 x hx]; rfl), List.nil_append] at f2
 exact ⟨_, _, ⟨_, f1⟩, ⟨_, f2⟩, (List.filter_append_perm _ X).symm⟩
theorem lng_app (X Y : List Pk) (s : Int) : lng (X ++ Y) s = lng X s + lng Y s := by simp [lng, syl_append]
theorem lng_perm {X Y : List Pk} (h : X.Perm Y) (s : Int) : lng X s = lng Y s := (syl_perm h).count_eq s
theorem LiesIn.single {A S : List Pk} {ss : List Int} (hS : Sing S ss) (h : LiesIn A S) : (syl A).Nodup ∧ (syl A).length = A.length ∧ ∀ s ∈ syl A, s ∈ ss := by
 obtain ⟨Z, hz⟩ := h
 have hp : (syl A ++ syl Z).Perm ss := by rw [← syl_append, ← hS.syls]; exact syl_perm hz
 refine ⟨(List.nodup_append.1 (hp.nodup_iff.2 hS.nd)).1, ?_, fun s hs => hp.mem_iff.1 (List.mem_append_left _ hs)⟩
 have : ∀ x ∈ A, x.2.length = 1 := fun x hx => by
  obtain ⟨s, _, e⟩ := hS.one x (hz.mem_iff.1 (List.mem_append_left _ hx)); rw [e]; rfl
 clear hp hz
 induction A with
 | nil => rfl
 | cons x A ih => rw [syl_cons, List.length_append, this x (by simp), ih fun y hy => this y (by simp [hy]), List.length_cons]; omega
theorem two_pow_pred (k : Nat) (h : 1 ≤ k) : 2 ^ k = 2 * 2 ^ (k - 1) := by
 cases k with
 | zero => omega
 | succ k => rw [Nat.pow_succ, Nat.add_sub_cancel]; omega
theorem RowK.kraft {S R : List Pk} {k : Nat} {ss : List Int} (hS : Sing S ss) (h : RowK S k R) : ∀ X, LiesIn X R →
 (∀ s, lng X s ≤ k) ∧ X.length * 2 ^ (k - 1) ≤ nsum (fun s => 2 ^ k - 2 ^ (k - lng X s)) ss ∧ (∀ s ∈ syl X, s ∈ ss) := by
 have sums : ∀ (L : List Int), L.Nodup → (∀ s ∈ L, s ∈ ss) → nsum (fun s => L.count s) ss = L.length := by
  intro L
  induction L with
  | nil => intro _ _; exact nsum_zero _ _ fun s _ => rfl
  | cons x L ih =>
   intro hn hm
   obtain ⟨h1, h2⟩ := List.nodup_cons.1 hn
   have := ih h2 fun s hs => hm s (by simp [hs])
   have e : nsum (fun s => (x :: L).count s) ss = nsum (fun s => L.count s) ss + nsum (fun s => if s = x then 1 else 0) ss := by
    rw [← nsum_add]
    refine nsum_congr _ _ _ fun s _ => ?_
    rw [List.count_cons]; by_cases h : s = x
    · subst h; simp
    · have : (x == s) = false := by simp; exact fun e => h e.symm
      simp [h, this]
   have e2 : nsum (fun s => if s = x then 1 else 0) ss = 1 := by
    have hx := hm x (by simp)
    have e3 : nsum (fun s => if s = x then 1 else 0) ss = ss.count x := by
     clear e this ih h1 h2 hn hm hx h hS
     induction ss with
     | nil => rfl
     | cons a l ih => rw [nsum_cons, ih, List.count_cons]; by_cases h : a = x <;> simp [h]; omega
    rw [e3]
    have a1 := List.nodup_iff_count.1 hS.nd x
    have a2 := List.count_pos_iff.2 hx
    omega
   rw [e, e2, this, List.length_cons]
 induction h with
 | one R p _ =>
  intro X hX
  obtain ⟨h1, h2, h3⟩ := (hX.right p).single hS
  have hle : ∀ s, lng X s ≤ 1 := fun s => List.nodup_iff_count.1 h1 s
  refine ⟨hle, ?_, h3⟩
  have := sums _ h1 h3
  have e : nsum (fun s => 2 ^ 1 - 2 ^ (1 - lng X s)) ss = nsum (fun s => (syl X).count s) ss := nsum_congr _ _ _ fun s _ => by
   have := hle s
   have e : lng X s = (syl X).count s := rfl
   rcases Nat.lt_or_ge (lng X s) 1 with h | h
   · rw [← e, show lng X s = 0 by omega]
   · rw [← e, show lng X s = 1 by omega]
  rw [e, this, h2]; simp
 | @more k R Q h p _ ih =>
  intro X hX
  obtain ⟨B, A, hB, hA, hp⟩ := LiesIn.parts hS h p hX
  obtain ⟨Y, hY, hYl, hYs, _, _⟩ := hB.unpair
  obtain ⟨i1, i2, i3⟩ := ih Y hY
  obtain ⟨a1, a2, a3⟩ := hA.single hS
  have hk : 1 ≤ k := by cases h <;> omega
  have hlx : ∀ s, lng X s = lng Y s + (syl A).count s := fun s => by rw [lng_perm hp, lng_app]; simp only [lng, hYs]
  have ha : ∀ s, (syl A).count s ≤ 1 := fun s => List.nodup_iff_count.1 a1 s
  refine ⟨fun s => by rw [hlx]; have := i1 s; have := ha s; omega, ?_, fun s hs => ?_⟩
  · have hs := sums _ a1 a3
    rw [a2] at hs
    have key : nsum (fun s => (syl A).count s * 2 ^ k + (2 ^ k - 2 ^ (k - lng Y s))) ss ≤ nsum (fun s => 2 ^ (k + 1) - 2 ^ (k + 1 - lng X s)) ss := by
     refine nsum_le _ _ _ fun s _ => ?_
     rw [hlx]
     have h1 := i1 s
     have h2 := ha s
     have e1 : 2 ^ (k + 1) = 2 * 2 ^ k := by rw [Nat.pow_succ]; omega
     have e3 : 2 ^ (k - lng Y s) ≤ 2 ^ k := Nat.pow_le_pow_right (by omega) (by omega)
     rcases Nat.lt_or_ge ((syl A).count s) 1 with h | h
     · rw [show (syl A).count s = 0 by omega, Nat.zero_mul, Nat.zero_add, Nat.add_zero (lng Y s), e1]
       have e2 : 2 ^ (k + 1 - lng Y s) = 2 * 2 ^ (k - lng Y s) := by rw [show k + 1 - lng Y s = (k - lng Y s) + 1 by omega, Nat.pow_succ]; omega
       rw [e2]; omega
     · rw [show (syl A).count s = 1 by omega, Nat.one_mul, e1, show k + 1 - (lng Y s + 1) = k - lng Y s by omega]
       omega
    rw [nsum_add, nsum_mul, hs] at key
    have hl := hp.length_eq
    rw [List.length_append] at hl
    have e4 := two_pow_pred k hk
    rw [hl, Nat.add_sub_cancel, Nat.add_mul]
    rw [hYl] at i2
    have e5 : B.length * 2 ^ k = 2 * B.length * 2 ^ (k - 1) := by rw [e4, ← Nat.mul_assoc]; congr 1; omega
    omega
  · have := (syl_perm hp).mem_iff.1 hs
    rw [syl_append, List.mem_append] at this
    rcases this with h | h
    · exact i3 s (hYs ▸ h)
    · exact a3 s h
def isum {α : Type} (f : α → Int) (l : List α) : Int := (l.map f).sum
theorem isum_cons {α : Type} (f : α → Int) (x : α) (l : List α) : isum f (x :: l) = f x + isum f l := by simp [isum]
theorem isum_add {α : Type} (f g : α → Int) (l : List α) : isum (fun x => f x + g x) l = isum f l + isum g l := by
 induction l with
 | nil => rfl
 | cons x l ih => simp only [isum_cons, ih]; omega
theorem isum_congr {α : Type} (f g : α → Int) (l : List α) (h : ∀ x ∈ l, f x = g x) : isum f l = isum g l := by
 induction l with
 | nil => rfl
 | cons x l ih => have := h x (by simp); have := ih fun y hy => h y (by simp [hy]); simp only [isum_cons]; omega
theorem isum_zero {α : Type} (f : α → Int) (l : List α) (h : ∀ x ∈ l, f x = 0) : isum f l = 0 := by
 induction l with
 | nil => rfl
 | cons x l ih => have := h x (by simp); have := ih fun y hy => h y (by simp [hy]); simp only [isum_cons]; omega
theorem nsum_perm {α : Type} (f : α → Nat) {l m : List α} (h : l.Perm m) : nsum f l = nsum f m := by
 induction h with
 | nil => rfl
 | cons x _ ih => simp [nsum_cons, ih]
 | swap x y l => simp only [nsum_cons]; omega
 | trans _ _ h1 h2 => rw [h1, h2]
theorem isum_append {α : Type} (f : α → Int) (l m : List α) : isum f (l ++ m) = isum f l + isum f m := by simp [isum]
theorem nsum_append {α : Type} (f : α → Nat) (l m : List α) : nsum f (l ++ m) = nsum f l + nsum f m := by simp [nsum]
theorem RowK.weigh {S R : List Pk} {k : Nat} (w : Int → Int) (hw : ∀ x ∈ S, x.1 = isum w x.2) (h : RowK S k R) : ∀ x ∈ R, x.1 = isum w x.2 := by
 induction h with
 | one R p _ => exact fun x hx => hw x (p.mem_iff.1 hx)
 | @more k R Q h p _ ih =>
  intro x hx
  rcases List.mem_append.1 (p.mem_iff.1 hx) with hx | hx
  · obtain ⟨q, hq, rfl⟩ := List.mem_map.1 hx
    obtain ⟨z, hu, _⟩ := prs_unp R
    have h1 := ih q.1 (by rw [← hu]; exact List.mem_append_left _ (by simp only [unp, List.mem_flatMap]; exact ⟨q, hq, by simp⟩))
    have h2 := ih q.2 (by rw [← hu]; exact List.mem_append_left _ (by simp only [unp, List.mem_flatMap]; exact ⟨q, hq, by simp⟩))
    simp only [pjoin, isum_append]; omega
  · exact hw x hx
theorem wsum_syl (w : Int → Int) : ∀ (X : List Pk), (∀ x ∈ X, x.1 = isum w x.2) → wsum X = isum w (syl X)
 | [], _ => rfl
 | x :: X, h => by rw [wsum_cons, syl_cons, isum_append, h x (by simp), wsum_syl w X fun y hy => h y (by simp [hy])]
theorem isum_count (w : Int → Int) (ss : List Int) (hn : ss.Nodup) : ∀ (L : List Int), (∀ s ∈ L, s ∈ ss) → isum w L = isum (fun s => w s * (L.count s : Nat)) ss
 | [], _ => (isum_zero _ _ fun s _ => by simp).symm
 | x :: L, h => by
  rw [isum_cons, isum_count w ss hn L fun s hs => h s (by simp [hs])]
  have e : isum (fun s => w s * ((x :: L).count s : Nat)) ss = isum (fun s => w s * (L.count s : Nat)) ss + isum (fun s => if s = x then w s else 0) ss := by
   rw [← isum_add]
   refine isum_congr _ _ _ fun s _ => ?_
   rw [List.count_cons]; by_cases h : s = x
   · subst h; simp [Int.mul_add]
   · have : (x == s) = false := by simp; exact fun e => h e.symm
     simp [h, this]
  have hx := h x (by simp)
  have e2 : isum (fun s => if s = x then w s else 0) ss = w x := by
   clear e h
   induction ss with
   | nil => cases hx
   | cons a l ih =>
    obtain ⟨h1, h2⟩ := List.nodup_cons.1 hn
    rw [isum_cons]
    by_cases ha : a = x
    · subst ha
      rw [if_pos rfl, isum_zero _ l fun s hs => by rw [if_neg]; intro e; exact h1 (e ▸ hs)]; omega
    · rw [if_neg ha, ih h2 ((List.mem_cons.1 hx).resolve_left (fun e => ha e.symm))]; omega
  rw [e, e2]; omega
def fN (K l : Nat) : Nat → Nat
 | 0 => 0
 | k + 1 => fN K l k + (if K ≤ l + k then 2 ^ k else 0)
def fC (K l : Nat) : Nat → Nat
 | 0 => 0
 | k + 1 => fC K l k + (if K ≤ l + k then 1 else 0)
theorem fN_16 (l : Nat) (h : l ≤ 16) : fN 16 l 16 + 2 ^ (16 - l) = 2 ^ 16 := by
 have : ∀ l, l < 17 → fN 16 l 16 + 2 ^ (16 - l) = 2 ^ 16 := by decide
 exact this l (by omega)
theorem fC_16 (l : Nat) (h : l ≤ 16) : fC 16 l 16 = l := by
 have : ∀ l, l < 17 → fC 16 l 16 = l := by decide
 exact this l (by omega)
theorem pairs_take : ∀ (R : List Pk) (t : Nat), 2 * t ≤ R.length → wsum ((pkgs R).take t) = wsum (R.take (2 * t))
 | _, 0, _ => by simp
 | a :: b :: l, t + 1, h => by
  have ih := pairs_take l t (by simp at h; omega)
  rw [show 2 * (t + 1) = 2 * t + 1 + 1 by omega, List.take_succ_cons, List.take_succ_cons, wsum_cons, wsum_cons, ← ih]
  simp only [pkgs, prs, List.map_cons, List.take_succ_cons, wsum_cons, pjoin]; omega
 | [a], t + 1, h => by simp at h; omega
 | [], t + 1, h => by simp at h
theorem RowK.lower {S R : List Pk} {k : Nat} (K : Nat) (len : Pk → Nat) (h0 : ∀ x ∈ S, 0 ≤ x.1) (h : RowK S k R) :
 ∃ X, LiesIn X R ∧ X.length = nsum (fun x => fN K (len x) k) S / 2 ^ (k - 1) ∧ wsum X ≤ isum (fun x => x.1 * (fC K (len x) k : Nat)) S := by
 have sel : ∀ k, nsum (fun x => fN K (len x) (k + 1)) S = nsum (fun x => fN K (len x) k) S + (S.filter fun x => decide (K ≤ len x + k)).length * 2 ^ k ∧
  isum (fun x => x.1 * (fC K (len x) (k + 1) : Nat)) S = isum (fun x => x.1 * (fC K (len x) k : Nat)) S + wsum (S.filter fun x => decide (K ≤ len x + k)) := fun k => by
  clear h h0
  induction S with
  | nil => exact ⟨by simp [nsum], by simp [isum, wsum]⟩
  | cons x S ih =>
   simp only [nsum_cons, isum_cons, List.filter_cons]
   rw [ih.1, ih.2]
   by_cases hx : K ≤ len x + k
   · simp only [fN, fC, hx, if_true, decide_true, List.length_cons, wsum_cons, Nat.add_mul, Nat.one_mul]
     refine ⟨by omega, ?_⟩
     push_cast; rw [Int.mul_add]; omega
   · simp only [fN, fC, hx, if_false, decide_false, Bool.false_eq_true]
     exact ⟨by omega, by simp; omega⟩
 have filt : ∀ k, LiesIn (S.filter fun x => decide (K ≤ len x + k)) S := fun k => ⟨_, List.filter_append_perm _ S⟩
 induction h with
 | one R p _ =>
  refine ⟨_, (filt 0).right p.symm, ?_, ?_⟩
  · rw [(sel 0).1, nsum_zero (fun x => fN K (len x) 0) S fun _ _ => rfl]; simp
  · rw [(sel 0).2, isum_zero (fun x => x.1 * (fC K (len x) 0 : Nat)) S fun _ _ => by simp [fC]]; omega
 | @more k R Q h p _ ih =>
  obtain ⟨X, hX, hl, hw⟩ := ih
  have hk : 1 ≤ k := by cases h <;> omega
  have ht := hX.len
  refine ⟨_, ((LiesIn.take (pkgs R) (X.length / 2)).app (filt k)).right p.symm, ?_, ?_⟩
  · rw [(sel k).1, List.length_append, List.length_take, pairs_len, Nat.min_eq_left (by omega), Nat.add_sub_cancel, Nat.add_mul_div_right _ _ (Nat.two_pow_pos k), hl, Nat.div_div_eq_div_mul, ← Nat.pow_succ, show (k - 1).succ = k by omega]
  · rw [(sel k).2, wsum_append, pairs_take R _ (by omega)]
    have := take_least R h.srt (h.nonneg h0) X (2 * (X.length / 2)) hX (by omega)
    omega
theorem prs_mem {R : List Pk} {q : Pk × Pk} (h : q ∈ prs R) : q.1 ∈ R ∧ q.2 ∈ R := by
 obtain ⟨z, hu, _⟩ := prs_unp R
 exact ⟨by rw [← hu]; exact List.mem_append_left _ (by simp only [unp, List.mem_flatMap]; exact ⟨q, h, by simp⟩), by rw [← hu]; exact List.mem_append_left _ (by simp only [unp, List.mem_flatMap]; exact ⟨q, h, by simp⟩)⟩
theorem prs_srt : ∀ (R : List Pk), Srt R → (prs R).Pairwise (fun q p => q.2.1 ≤ p.1.1) ∧ ∀ q ∈ prs R, q.1.1 ≤ q.2.1
 | [], _ => ⟨List.Pairwise.nil, fun q h => by cases h⟩
 | [a], _ => ⟨List.Pairwise.nil, fun q h => by cases h⟩
 | a :: b :: l, h => by
  obtain ⟨h1, h2⟩ := List.pairwise_cons.1 h
  obtain ⟨h3, h4⟩ := List.pairwise_cons.1 h2
  obtain ⟨i1, i2⟩ := prs_srt l h4
  refine ⟨List.pairwise_cons.2 ⟨fun q hq => h3 _ (prs_mem hq).1, i1⟩, fun q hq => ?_⟩
  rcases List.mem_cons.1 hq with rfl | hq
  · exact h1 _ (by simp)
  · exact i2 q hq
def Low (C Z R : List Pk) : Prop := (C ++ Z).Perm R ∧ ∀ p ∈ C, ∀ q ∈ Z, p.1 ≤ q.1
theorem Low.take {R : List Pk} (h : Srt R) (m : Nat) : Low (R.take m) (R.drop m) R :=
 ⟨by rw [List.take_append_drop], fun p hp q hq => by
  have : (R.take m ++ R.drop m).Pairwise (fun a b => a.1 ≤ b.1) := by rw [List.take_append_drop]; exact h
  exact (List.pairwise_append.1 this).2.2 p hp q hq⟩
theorem prs_last : ∀ (R : List Pk), Srt R → ∀ z, unp (prs R) ++ z = R → ∀ y ∈ z, ∀ x ∈ unp (prs R), x.1 ≤ y.1 := fun R h z e y hy x hx => by
 have : (unp (prs R) ++ z).Pairwise (fun a b => a.1 ≤ b.1) := by rw [e]; exact h
 exact (List.pairwise_append.1 this).2.2 x hx y hy
theorem RowK.order {S R : List Pk} {k : Nat} {ss : List Int} (hS : Sing S ss) (w : Int → Int) (hw : ∀ x ∈ S, x.1 = isum w x.2) (h : RowK S k R) {a b : Int} (hb : b ∈ ss) (hab : w b < w a) :
 ∀ C Z, Low C Z R → lng C a ≤ lng C b := by
 have single : ∀ C Z, (C ++ Z).Perm S → (∀ p ∈ C, ∀ q ∈ Z, p.1 ≤ q.1) → (syl C).count a ≤ (syl C).count b := by
  intro C Z hp hl
  have hsp : (syl C ++ syl Z).Perm ss := by rw [← syl_append, ← hS.syls]; exact syl_perm hp
  have hn := hsp.nodup_iff.2 hS.nd
  have h1 : (syl C).count a ≤ 1 := List.nodup_iff_count.1 (List.nodup_append.1 hn).1 a
  by_cases ha : a ∈ syl C
  · have hbm := hsp.mem_iff.2 hb
    rcases List.mem_append.1 hbm with hbC | hbZ
    · have := List.count_pos_iff.2 hbC; omega
    · exfalso
      obtain ⟨x, hx, hax⟩ := List.mem_flatMap.1 ha
      obtain ⟨y, hy, hby⟩ := List.mem_flatMap.1 hbZ
      have hxS := hp.mem_iff.1 (List.mem_append_left _ hx)
      have hyS := hp.mem_iff.1 (List.mem_append_right _ hy)
      obtain ⟨s, _, es⟩ := hS.one x hxS
      obtain ⟨t, _, et⟩ := hS.one y hyS
      rw [es] at hax; rw [et] at hby
      simp at hax hby
      subst hax; subst hby
      have w1 := hw x hxS
      have w2 := hw y hyS
      rw [es] at w1; rw [et] at w2
      simp [isum] at w1 w2
      have := hl x hx y hy
      omega
  · rw [List.count_eq_zero.2 ha]; omega
 induction h with
 | one R p _ => exact fun C Z hL => single C Z (hL.1.trans p) hL.2
 | @more k R Q h p _ ih =>
  intro C Z hL
  obtain ⟨hp, hl⟩ := hL
  have hz := hp.trans p
  have hpos := h.pos hS
  have h1 : ∀ x ∈ pkgs R, decide (2 ≤ x.2.length) = true := fun x hx => by
   obtain ⟨q, hq, rfl⟩ := List.mem_map.1 hx
   have e1 := hpos q.1 (prs_mem hq).1
   have e2 := hpos q.2 (prs_mem hq).2
   simp only [pjoin, List.length_append, decide_eq_true_eq]; omega
  have h2 : ∀ x ∈ S, decide (2 ≤ x.2.length) = false := fun x hx => by obtain ⟨s, _, e⟩ := hS.one x hx; rw [e]; simp
  have f1 := hz.filter (fun x => decide (2 ≤ x.2.length))
  have f2 := hz.filter (fun x => !decide (2 ≤ x.2.length))
  rw [List.filter_append, List.filter_append, List.filter_eq_self.2 h1, (List.filter_eq_nil_iff (l := S)).2 (fun x hx => by rw [h2 x hx]; simp), List.append_nil] at f1
  rw [List.filter_append, List.filter_append, (List.filter_eq_nil_iff (l := pkgs R)).2 (fun x hx => by rw [h1 x hx]; simp), (List.filter_eq_self (l := S)).2 (fun x hx => by rw [h2 x hx]; rfl), List.nil_append] at f2
  have hC := (List.filter_append_perm (fun x : Pk => decide (2 ≤ x.2.length)) C).symm
  obtain ⟨M, hM, hm⟩ := perm_lift pjoin f1 (prs R) rfl
  obtain ⟨B, B', e, hb1, hb2⟩ := List.map_eq_append_iff.1 hm
  obtain ⟨z, hu, _⟩ := prs_unp R
  obtain ⟨s1, s2⟩ := prs_srt R h.srt
  have hpw : (B ++ B').Pairwise (fun q p => q.2.1 ≤ p.1.1 ∨ p.2.1 ≤ q.1.1) := by
   rw [← e]
   exact (List.Perm.pairwise_iff (R := fun (q p : Pk × Pk) => q.2.1 ≤ p.1.1 ∨ p.2.1 ≤ q.1.1) (fun hh => hh.symm) hM).2 (s1.imp Or.inl)
  have hcross := (List.pairwise_append.1 hpw).2.2
  have hmem : ∀ q, q ∈ B ++ B' → q ∈ prs R := fun q hq => hM.mem_iff.1 (e ▸ hq)
  have hlow : Low (unp B) (unp B' ++ z) R := by
   refine ⟨?_, ?_⟩
   · rw [← List.append_assoc]
     have h3 : (unp M).Perm (unp (prs R)) := hM.flatMap_right _
     have h4 : unp M = unp B ++ unp B' := by rw [e]; simp [unp]
     rw [← h4]
     conv => rhs; rw [← hu]
     exact h3.append_right z
   · intro y hy y' hy'
     simp only [unp, List.mem_flatMap] at hy
     obtain ⟨q, hq, hyq⟩ := hy
     have hqR := hmem q (List.mem_append_left _ hq)
     rcases List.mem_append.1 hy' with hy' | hy'
     · simp only [unp, List.mem_flatMap] at hy'
       obtain ⟨q', hq', hyq'⟩ := hy'
       have hqR' := hmem q' (List.mem_append_right _ hq')
       have c1 := s2 q hqR
       have c2 := s2 q' hqR'
       have c3 := hcross q hq q' hq'
       have c4 : (pjoin q).1 ≤ (pjoin q').1 := by
        refine hl _ ?_ _ ?_
        · exact (List.mem_filter.1 (hb1 ▸ List.mem_map.2 ⟨q, hq, rfl⟩)).1
        · exact (List.mem_filter.1 (hb2 ▸ List.mem_map.2 ⟨q', hq', rfl⟩)).1
       simp only [pjoin] at c4
       simp at hyq hyq'
       rcases hyq with rfl | rfl <;> rcases hyq' with rfl | rfl <;> rcases c3 with c3 | c3 <;> omega
     · exact prs_last R h.srt z hu y' hy' y (by simp only [unp, List.mem_flatMap]; exact ⟨q, hqR, hyq⟩)
  have i1 := ih _ _ hlow
  have e1 : ∀ s, lng C s = lng (unp B) s + (syl (C.filter fun x => !decide (2 ≤ x.2.length))).count s := fun s => by
   rw [lng_perm hC, lng_app]; simp only [lng]; rw [← hb1, syl_join]
  rw [e1, e1]
  have := single _ _ f2 fun p hp q hq => hl p (List.mem_filter.1 hp).1 q (List.mem_filter.1 hq).1
  omega
theorem nsum_const {α : Type} (l : List α) : nsum (fun _ => 1) l = l.length := by
 induction l with
 | nil => rfl
 | cons a l ih => rw [nsum_cons, ih, List.length_cons]; omega
theorem best_spec {S R : List Pk} {ss : List Int} (hS : Sing S ss) (w : Int → Int) (hw : ∀ x ∈ S, x.1 = isum w x.2) (h0 : ∀ s ∈ ss, 0 ≤ w s) (h1 : 1 ≤ ss.length) (h2 : ss.length < 32768) (hR : RowK S 16 R) :
 2 * ss.length - 2 ≤ R.length ∧
 (∀ s, lng (R.take (2 * ss.length - 2)) s ≤ 16) ∧ (∀ s, s ∉ ss → lng (R.take (2 * ss.length - 2)) s = 0) ∧
 nsum (fun s => 2 ^ (16 - lng (R.take (2 * ss.length - 2)) s)) ss ≤ 2 ^ 16 ∧
 (∀ len : Int → Nat, (∀ s ∈ ss, len s ≤ 16) → nsum (fun s => 2 ^ (16 - len s)) ss ≤ 2 ^ 16 → isum (fun s => w s * (lng (R.take (2 * ss.length - 2)) s : Nat)) ss ≤ isum (fun s => w s * (len s : Nat)) ss) ∧
 (∀ a b, b ∈ ss → w b < w a → lng (R.take (2 * ss.length - 2)) a ≤ lng (R.take (2 * ss.length - 2)) b) := by
 have hSl := hS.len
 have hlong := hR.long (by omega)
 have hd : S.length / 2 ^ (16 - 1) = 0 := Nat.div_eq_of_lt (by omega)
 rw [hd] at hlong
 have hlen : 2 * ss.length - 2 ≤ R.length := by omega
 obtain ⟨k1, k2, k3⟩ := hR.kraft hS _ (LiesIn.take R (2 * ss.length - 2))
 have h0S : ∀ x ∈ S, 0 ≤ x.1 := fun x hx => by
  obtain ⟨s, hs, e⟩ := hS.one x hx
  have := hw x hx; rw [e] at this; simp [isum] at this
  have := h0 s hs; omega
 refine ⟨hlen, k1, fun s hs => List.count_eq_zero.2 fun hm => hs (k3 s hm), ?_, ?_, fun a b hb hab => hR.order hS w hw hb hab _ _ (Low.take hR.srt _)⟩
 · rw [List.length_take, Nat.min_eq_left hlen] at k2
   have e : nsum (fun s => 2 ^ 16 - 2 ^ (16 - lng (R.take (2 * ss.length - 2)) s)) ss + nsum (fun s => 2 ^ (16 - lng (R.take (2 * ss.length - 2)) s)) ss = ss.length * 2 ^ 16 := by
    rw [← nsum_add, nsum_congr _ (fun _ => 1 * 2 ^ 16) ss fun s _ => ?_, nsum_mul, nsum_const]
    · have : 2 ^ (16 - lng (R.take (2 * ss.length - 2)) s) ≤ 2 ^ 16 := Nat.pow_le_pow_right (by omega) (by omega)
      omega
   omega
 · intro len hl hk
   obtain ⟨X, hX, hXl, hXw⟩ := hR.lower 16 (fun x => len (x.2.headD 0)) h0S
   have conv1 : nsum (fun x : Pk => fN 16 (len (x.2.headD 0)) 16) S = nsum (fun s => fN 16 (len s) 16) ss := by
    have : S.map (fun x : Pk => fN 16 (len (x.2.headD 0)) 16) = (S.map (·.2)).map fun l => fN 16 (len (l.headD 0)) 16 := by rw [List.map_map]; rfl
    simp only [nsum]; rw [this, hS.syms, List.map_map]; rfl
   have conv2 : isum (fun x : Pk => x.1 * (fC 16 (len (x.2.headD 0)) 16 : Nat)) S = isum (fun s => w s * (len s : Nat)) ss := by
    have e1 : S.map (fun x : Pk => x.1 * (fC 16 (len (x.2.headD 0)) 16 : Nat)) = (S.map (·.2)).map fun l => isum w l * (fC 16 (len (l.headD 0)) 16 : Nat) := by
     rw [List.map_map]; exact List.map_congr_left fun x hx => by simp only [Function.comp]; rw [hw x hx]
    simp only [isum] at e1 ⊢; rw [e1, hS.syms, List.map_map]
    have := isum_congr (fun s => (List.map w [s]).sum * (fC 16 (len s) 16 : Nat)) (fun s => w s * (len s : Nat)) ss fun s hs => by rw [fC_16 _ (hl s hs)]; simp
    simp only [isum] at this
    exact this
   rw [conv1] at hXl
   rw [conv2] at hXw
   have e : nsum (fun s => fN 16 (len s) 16) ss + nsum (fun s => 2 ^ (16 - len s)) ss = ss.length * 2 ^ 16 := by
    rw [← nsum_add, nsum_congr _ (fun _ => 1 * 2 ^ 16) ss fun s hs => by rw [fN_16 _ (hl s hs), Nat.one_mul], nsum_mul, nsum_const]
   have hm : 2 * ss.length - 2 ≤ X.length := by
    rw [hXl, Nat.le_div_iff_mul_le (Nat.two_pow_pos _)]
    rw [show (2 : Nat) ^ 16 = 65536 from rfl] at e hk
    rw [show (16 : Nat) - 1 = 15 from rfl, show (2 : Nat) ^ 15 = 32768 from rfl]
    generalize nsum (fun s => fN 16 (len s) 16) ss = A at e ⊢
    generalize nsum (fun s => 2 ^ (16 - len s)) ss = B at e hk
    clear hXl hXw hX conv1 conv2 hd hlong hlen k1 k2 k3 hl
    omega
   have := take_least R hR.srt (hR.nonneg h0S) X _ hX hm
   have wt : wsum (R.take (2 * ss.length - 2)) = isum (fun s => w s * (lng (R.take (2 * ss.length - 2)) s : Nat)) ss := by
    rw [wsum_syl w _ fun x hx => hR.weigh w hw x (List.mem_of_mem_take hx), isum_count w ss hS.nd _ k3]; rfl
   omega
theorem nsum_mem_le {α : Type} (f : α → Nat) {l : List α} {x : α} (h : x ∈ l) : f x ≤ nsum f l := by
 induction l with
 | nil => cases h
 | cons a l ih => rw [nsum_cons]; rcases List.mem_cons.1 h with rfl | h; omega; have := ih h; omega
theorem nsum_two {α : Type} (f : α → Nat) {l : List α} {x y : α} (hx : x ∈ l) (hy : y ∈ l) (hn : x ≠ y) : f x + f y ≤ nsum f l := by
 induction l with
 | nil => cases hx
 | cons a l ih =>
  rw [nsum_cons]
  rcases List.mem_cons.1 hx with e1 | hx <;> rcases List.mem_cons.1 hy with e2 | hy
  · exact absurd (e1.trans e2.symm) hn
  · have := nsum_mem_le f hy; rw [e1]; omega
  · have := nsum_mem_le f hx; rw [e2]; omega
  · have := ih hx hy; omega
theorem kraft_pos {ss : List Int} {f : Int → Nat} (hk : nsum (fun s => 2 ^ (16 - f s)) ss ≤ 2 ^ 16) {a b : Int} (ha : a ∈ ss) (hb : b ∈ ss) (hab : a ≠ b) : 1 ≤ f a := by
 have h1 : 2 ^ (16 - f a) + 2 ^ (16 - f b) ≤ nsum (fun s => 2 ^ (16 - f s)) ss := nsum_two (fun s => 2 ^ (16 - f s)) ha hb hab
 rcases Nat.lt_or_ge (f a) 1 with h | h
 · have : f a = 0 := by omega
   rw [this] at h1
   have : 1 ≤ 2 ^ (16 - f b) := Nat.one_le_two_pow
   omega
 · exact h

end Go.Proofs.YtehbjhocgnfpmaaDoor
/- The walk of best.Make: packages merged. -/
namespace Go.Proofs.YtehbjhocgnfpmaaDoor
set_option maxRecDepth 100000
open Go.RowKit
set_option linter.unusedVariables false
theorem bcheckC_any (w : World) (n : Int) : Calls Tryd.prog 63 #[.int .i64 n] w fun e w' => e = .returned (.bool (decide (n < 0) || decide (9999 < n))) ∧ w = w' := by
 by_cases h : n < 0
 · have h2 : decide (n < 0) = true := by simpa using h
   rw [h2]
   go_enter Tryd.func63, Tryd.ntmps63
   go_wp2_with fail
   go_ret
   exact ⟨rfl, rfl⟩
 · have h2 : decide (n < 0) = false := by simpa using h
   rw [h2, Bool.false_or]
   have h3 : 0 ≤ n := by omega
   clear h
   go_enter Tryd.func63, Tryd.ntmps63
   go_wp2_with fail
   go_ret
   exact ⟨rfl, rfl⟩
def bE (c : List Int) : Int := if 256 < c.length then 2 else if allIn c 0 9999 then 0 else 1
theorem bcheck_any (w0 : World) (c : List Int) (ad : Option Addr) (n cap : Nat) (hv : Sl w0 1 (.slice ad n cap) n (c.map (Value.int .i64))) (hn : n ≤ 9223372036854775807) :
 Calls Tryd.prog 45 #[.slice ad n cap] w0 fun e w => e = .returned (.int .i64 (bE c)) ∧ Ext w0 w := by
 have hl : c.length = n := by have := hv.1; simpa using this
 have hS := St.start w0
 have HC := hid (fun (w : World) (hE : Ext w0 w) => containsFunc_any w (.slice ad n cap) c (by unfold ISl; rw [hl]; exact hv.ext hE) 63 #[] (fun n => decide (n < 0) || decide (9999 < n)) Tryd.call63 (fun m => bcheckC_any w m))
 obtain ⟨B, hB⟩ : ∃ B, c.any (fun n => decide (n < 0) || decide (9999 < n)) = B := ⟨_, rfl⟩
 have hE : bE c = if 256 < n then 2 else if B then 1 else 0 := by
  unfold bE allIn; rw [hl, hB]
  cases B <;> rfl
 rw [hB] at HC
 rw [hE]
 clear hE hB hv
 by_cases h256 : 256 < n
 · rw [if_pos h256]
   go_enter Tryd.func45, Tryd.ntmps45
   repeat' (first
    | (refine y91 ?_) | (refine y966 ?_) | (refine y980 ?_) | ((fail_if_success with_reducible refine ga9 ?_); go_step))
   go_ret
   exact ⟨rfl, hS.1⟩
 · rw [if_neg h256]
   cases B with
   | true =>
    rw [if_pos rfl]
    go_enter Tryd.func45, Tryd.ntmps45
    repeat' (first
     | (refine y91 ?_) | (refine y966 ?_) | (refine y980 ?_) | ((fail_if_success with_reducible refine ga9 ?_); go_step))
    repeat' (first
     | ((with_reducible refine gt9 _ (.call ⟨.value (.func 62), _, _⟩) ?_); refine wpl_call (f := 62) Tryd.call62 kr9 ?_; refine ⟨_, (HC.out _ hS.1), ?_⟩; rintro e w ⟨rfl, rfl⟩; refine ⟨_, rfl, ?_⟩; refine put_move ?_; go_step) | (refine y92 ?_) | ((fail_if_success with_reducible refine ga9 ?_); go_step))
    all_goals go_ret
    all_goals exact ⟨rfl, hS.1⟩
   | false =>
    rw [if_neg (by decide)]
    go_enter Tryd.func45, Tryd.ntmps45
    repeat' (first
     | (refine y91 ?_) | (refine y966 ?_) | (refine y980 ?_) | ((fail_if_success with_reducible refine ga9 ?_); go_step))
    repeat' (first
     | ((with_reducible refine gt9 _ (.call ⟨.value (.func 62), _, _⟩) ?_); refine wpl_call (f := 62) Tryd.call62 kr9 ?_; refine ⟨_, (HC.out _ hS.1), ?_⟩; rintro e w ⟨rfl, rfl⟩; refine ⟨_, rfl, ?_⟩; refine put_move ?_; go_step) | (refine y92 ?_) | ((fail_if_success with_reducible refine ga9 ?_); go_step))
    all_goals go_ret
    all_goals exact ⟨rfl, hS.1⟩
structure GP where
 w : Int
 r : Sr
def gpV (p : GP) : PkV := ⟨p.w, p.r.ad, p.r.xs.length, p.r.c⟩
def gpM (p : GP) : Pk := (p.w, p.r.xs)
theorem gp_snoc (G : List GP) (p : GP) : ((G ++ [p]).map gpV).flatMap pkE = (G.map gpV).flatMap pkE ++ [.int .i64 p.w, .slice p.r.ad p.r.xs.length p.r.c] := by
 rw [List.map_append, List.flatMap_append]; rfl
theorem gp_app (G H : List GP) : ((G ++ H).map gpV).flatMap pkE = (G.map gpV).flatMap pkE ++ (H.map gpV).flatMap pkE := by
 rw [List.map_append, List.flatMap_append]
def sgs (c : List Int) (k : Nat) : List Pk := (0, [-1]) :: ((List.range k).filter fun s => decide (0 < nth c s)).map fun s => (nth c s, [(s : Int)])
theorem sgs_succ (c : List Int) (k : Nat) : sgs c (k + 1) = if 0 < nth c k then sgs c k ++ [(nth c k, [(k : Int)])] else sgs c k := by
 unfold sgs
 rw [List.range_succ, List.filter_append]
 by_cases h : 0 < nth c k
 · rw [if_pos h, List.filter_cons_of_pos (by simpa using h)]; simp
 · rw [if_neg h, List.filter_cons_of_neg (by simpa using h)]; simp
theorem sgs_len (c : List Int) (k : Nat) : (sgs c k).length ≤ k + 1 := by
 unfold sgs
 have := List.length_filter_le (fun s => decide (0 < nth c s)) (List.range k)
 simp at this ⊢
 exact this
theorem RowK.syll {S R : List Pk} {k : Nat} (h : RowK S k R) : (syl R).length ≤ k * (syl S).length := by
 induction h with
 | one R p _ => have := (syl_perm p).length_eq; omega
 | @more k R Q h p _ ih =>
  have h1 := (syl_perm p).length_eq
  rw [syl_append, List.length_append] at h1
  obtain ⟨z, hu, _⟩ := prs_unp R
  have h2 : syl (pkgs R) = syl (unp (prs R)) := syl_join (prs R)
  have h3 := congrArg (fun l => (syl l).length) hu
  simp only [syl_append, List.length_append] at h3
  rw [h2] at h1
  rw [Nat.add_mul, Nat.one_mul]
  omega
theorem syl_mem {R : List Pk} {x : Pk} (h : x ∈ R) : x.2.length ≤ (syl R).length := by
 induction R with
 | nil => cases h
 | cons a R ih =>
  rw [syl_cons, List.length_append]
  rcases List.mem_cons.1 h with rfl | h
  · omega
  · have := ih h; omega
theorem pkgs_take (R : List Pk) (q : Nat) (h : 2 * q + 1 < R.length) : (pkgs R).take (q + 1) = (pkgs R).take q ++ [pjoin (elt R (2 * q), elt R (2 * q + 1))] := by
 induction q generalizing R with
 | zero =>
  match R, h with
  | a :: b :: l, _ => simp [pkgs, prs, elt]
 | succ q ih =>
  match R, h with
  | a :: b :: l, h =>
   have e := ih l (by simp at h; omega)
   have e1 : pkgs (a :: b :: l) = pjoin (a, b) :: pkgs l := by simp [pkgs, prs]
   rw [e1, List.take_succ_cons, e, List.take_succ_cons, List.cons_append]
   congr 3
theorem elt_get {α : Type} [Inhabited α] (l : List α) (i : Nat) (h : i < l.length) : l[i] = elt l i := by simp [elt, h]
theorem gp_at (G : List GP) (k : Nat) (h : k < G.length) : ∃ p, p ∈ G ∧ elt (G.map gpV) k = gpV p ∧ elt (G.map gpM) k = gpM p := by
 refine ⟨G[k], List.getElem_mem h, ?_, ?_⟩
 · simp [elt, h]
 · simp [elt, h]
theorem RowK.wbd {S R : List Pk} {k : Nat} (h0 : ∀ x ∈ S, 0 ≤ x.1 ∧ x.1 ≤ 9999 * x.2.length) (h : RowK S k R) : ∀ x ∈ R, 0 ≤ x.1 ∧ x.1 ≤ 9999 * x.2.length := by
 induction h with
 | one R p _ => exact fun x hx => h0 x (p.mem_iff.1 hx)
 | @more k R Q h p _ ih =>
  intro x hx
  rcases List.mem_append.1 (p.mem_iff.1 hx) with hx | hx
  · obtain ⟨q, hq, rfl⟩ := List.mem_map.1 hx
    have h1 := ih q.1 (prs_mem hq).1
    have h2 := ih q.2 (prs_mem hq).2
    simp only [pjoin, List.length_append]
    push_cast
    omega
  · exact h0 x hx
theorem sgs_bd (c : List Int) (n k : Nat) (h : ∀ i, i < n → 0 ≤ nth c i ∧ nth c i ≤ 9999) (hk : k ≤ n) : ∀ x ∈ sgs c k, 0 ≤ x.1 ∧ x.1 ≤ 9999 * x.2.length := by
 intro x hx
 rcases List.mem_cons.1 hx with rfl | hx
 · simp
 · obtain ⟨s, hs, rfl⟩ := List.mem_map.1 hx
   have h1 := (List.mem_filter.1 hs).1
   have := h s (by simp at h1; omega)
   simp; omega
theorem sgs_syl (c : List Int) (k : Nat) : (syl (sgs c k)).length = (sgs c k).length := by
 have : ∀ l : List Nat, (syl (l.map fun s => (nth c s, [(s : Int)]))).length = l.length := fun l => by
  induction l with
  | nil => rfl
  | cons a l ih => rw [List.map_cons, syl_cons, List.length_append, ih]; simp; omega
 unfold sgs
 rw [syl_cons, List.length_append, this]
 simp; omega
theorem row_bd {c : List Int} {n j : Nat} {R : List Pk} (h : ∀ i, i < n → 0 ≤ nth c i ∧ nth c i ≤ 9999) (hn : n ≤ 256) (hj : j ≤ 16) (hR : RowK (sgs c n) j R) : ∀ x ∈ R, 0 ≤ x.1 ∧ x.1 ≤ 50000000 ∧ x.2.length ≤ 5000 := by
 intro x hx
 have h1 := hR.wbd (sgs_bd c n n h (Nat.le_refl _)) x hx
 have h2 := hR.syll
 have h3 := syl_mem hx
 have h4 := sgs_len c n
 rw [sgs_syl] at h2
 have h5 : j * (sgs c n).length ≤ 16 * 257 := Nat.mul_le_mul hj (by omega)
 omega
def cntF (l : List Int) (s : Int) : Option Value := if l.count s = 0 then none else some (.int .i64 (l.count s : Nat))
theorem cntF_snoc (l : List Int) (s : Int) : (fun j => if j = s then some (Value.int .i64 ((l.count s + 1 : Nat) : Int)) else cntF l j) = cntF (l ++ [s]) := by
 funext j
 unfold cntF
 rw [List.count_append]
 by_cases h : j = s
 · subst h; simp
 · have : List.count j [s] = 0 := by rw [List.count_eq_zero]; simp [h]
   rw [if_neg h, this, Nat.add_zero]
theorem cntF_nil : cntF [] = fun _ => none := by funext j; simp [cntF]
def symsK (f : Int → Nat) (n k : Nat) : List Int := ((List.range n).filter fun (s : Nat) => decide (f (s : Int) = k)).map fun (s : Nat) => (s : Int)
theorem symsK_succ (f : Int → Nat) (n k : Nat) : symsK f (n + 1) k = if f (n : Int) = k then symsK f n k ++ [(n : Int)] else symsK f n k := by
 unfold symsK
 rw [List.range_succ, List.filter_append]
 by_cases h : f (n : Int) = k
 · rw [if_pos h, List.filter_cons_of_pos (by simpa using h)]; simp
 · rw [if_neg h, List.filter_cons_of_neg (by simpa using h)]; simp
def symsTo (f : Int → Nat) (n k : Nat) : List Int := (List.range k).flatMap fun i => symsK f n (i + 1)
theorem symsTo_succ (f : Int → Nat) (n k : Nat) : symsTo f n (k + 1) = symsTo f n k ++ symsK f n (k + 1) := by
 unfold symsTo; rw [List.range_succ, List.flatMap_append]; simp
theorem symsK_len (f : Int → Nat) (n k : Nat) : (symsK f n k).length ≤ n := by
 have := List.length_filter_le (fun s : Nat => decide (f (s : Int) = k)) (List.range n)
 simp [symsK] at this ⊢; exact this
theorem symsTo_len (f : Int → Nat) (n k : Nat) : (symsTo f n k).length ≤ k * n := by
 induction k with
 | zero => simp [symsTo]
 | succ k ih => rw [symsTo_succ, List.length_append, Nat.add_mul, Nat.one_mul]; have := symsK_len f n (k + 1); omega
def cntTo (f : Int → Nat) (n k s i : Nat) : Int := if i < k then ((symsK f n (i + 1)).length : Nat) else if i = k then ((symsK f s (i + 1)).length : Nat) else 0

set_option maxRecDepth 100000
open Go.RowKit
set_option linter.unusedVariables false
abbrev gpks (g n c : Nat) (G : List GP) : Res := pks g n c (G.map gpV)
theorem gp_perm {Q : List PkV} {G : List GP} (h : Q.Perm (G.map gpV)) : ∃ G' : List GP, G'.Perm G ∧ G'.map gpV = Q := perm_lift gpV h G rfl
theorem gp_srt {G : List GP} (h : (G.map gpV).Pairwise (fun a b => a.w ≤ b.w)) : Srt (G.map gpM) := by
 unfold Srt
 rw [List.pairwise_map] at h ⊢
 exact h
theorem star_row {W w : World} {L : List Sr} {rs rs' : List Res} (h : St W w rs) (p : Pull (star (L.map Sr.res)) rs rs') {x : Sr} (hx : x ∈ L) : Sl w 1 (.slice x.ad x.xs.length x.c) x.xs.length (x.xs.map (Value.int .i64)) := by
 obtain ⟨s, hs⟩ := h.starGet p (List.mem_map.2 ⟨x, hx, rfl⟩)
 exact hs.sl (show Pull (own 3 1 x.ad x.xs.length x.c (x.xs.map (Value.int .i64))) (Sr.res x :: s) s from .head)
theorem bl133_0_1 (m0 : Int) (a1 : Option Addr) (n1 c1 : Nat) (w : World) : (Instr.build 133 #[(0, .int .i64 m0), (1, .slice a1 n1 c1)]).run Tryd.prog w = .ok (.agg #[.int .i64 m0, .slice a1 n1 c1]) w := by kernel_rfl
set_option maxRecDepth 100000 in
set_option maxHeartbeats 16000000 in
theorem make_any (w0 : World) (c : List Int) (ad : Option Addr) (n cap : Nat) (hv : Sl w0 1 (.slice ad n cap) n (c.map (Value.int .i64))) (hn : n ≤ 9223372036854775807) (hok : bE c = 0) :
 Calls Tryd.prog 47 #[.slice ad n cap] w0 fun e w => ∃ (f : Int → Nat) (R : List Pk) (C S : List Int) (ao : Option Addr) (co : Nat), RowK (sgs c n) 16 R ∧ f = lng (R.take (2 * (sgs c n).length - 2)) ∧ Len C 16 ∧ (∀ i, i < 16 → nth C i = ((symsK f n (i + 1)).length : Nat)) ∧ S = symsTo f n 16 ∧ e = .returned (.tuple #[tv C (.slice ao S.length co), .int .i64 0]) ∧ St w0 w [own 3 1 ao S.length co (S.map (Value.int .i64))] := by
 have hS := St.start w0
 have hcl : c.length = n := by have := hv.1; simpa using this
 have HCK := hid (fun (w : World) (hE : Ext w0 w) => bcheck_any w c ad n cap (hv.ext hE) hn)
 rw [hok] at HCK
 have hn2 : n ≤ 256 ∧ allIn c 0 9999 = true := by
  unfold bE at hok
  rw [hcl] at hok
  by_cases h : 256 < n
  · rw [if_pos h] at hok; cases hok
  · rw [if_neg h] at hok
    by_cases h2 : allIn c 0 9999 = true
    · exact ⟨by omega, h2⟩
    · rw [if_neg h2] at hok; cases hok
 obtain ⟨hn3, hall⟩ := hn2
 have hrng := (allIn_iff c 0 9999).1 hall
 rw [hcl] at hrng
 have HRNG := hid hrng
 have HV := hid hv
 clear hrng hall hok
 go_enter Tryd.func47, Tryd.ntmps47
 repeat' (first
  | ((with_reducible refine gt9 _ (.call ⟨.value (.func 45), _, _⟩) ?_); refine wpl_call (f := 45) Tryd.call45 kr9 ?_; refine ⟨_, (HCK.out _ hS.1), ?_⟩; rintro e w ⟨rfl, hE2⟩; replace hS := hS.ext hE2; clear hE2; refine ⟨_, rfl, ?_⟩; refine put_move ?_; go_step) | (refine y91 ?_) | ((with_reducible refine gs9 22 ?_); (refine wvv9 (V.neq rfl rfl) ?_; go_step)) | ((with_reducible refine gs9 2 ?_); (refine wl9 ?_; apply wp_allocP (o := ⟨some 2, _, _, _, _, _⟩) hS 31 rfl _ zp31; clear hS; intro g2 w hS; refine put_move ?_; go_step)) | ((fail_if_success with_reducible refine ga9 ?_); go_step))
 repeat' (first
  | ((with_reducible refine gs9 25 ?_); (refine wl9 ?_; apply wp_buildSliceO (o := ⟨some 25, _, _, _, _, _⟩) hS 24 1 _ rfl 3 1 8 el24 _ _; (case hvs => (repeat (first | exact Parts.nil | (apply Parts.agg; (rfl); (rfl)) | (apply Parts.one; exact isv9; (rfl); (rfl))))); (case hn => rfl); (case hn0 => decide); (case hns => decide); clear hS; intro g25 w hS; refine put_move ?_; go_step)) | ((with_reducible refine gs9 27 ?_); (refine wl9 ?_; apply wp_buildSliceO (o := ⟨some 27, _, _, _, _, _⟩) hS 134 1 _ rfl 133 2 32 el134 _ _; (case hvs => (repeat (first | exact Parts.nil | (apply Parts.agg; (rfl); (rfl)) | (apply Parts.one; exact isv9; (rfl); (rfl))))); (case hn => rfl); (case hn0 => decide); (case hns => decide); clear hS; intro g27 w hS; simp only [List.cons_append, List.nil_append] at hS; refine put_move ?_; go_step)) | (refine y91 ?_) | ((with_reducible refine gs9 26 ?_); (refine wvv9 (V.build (vs := [(0, _), (1, _)]) rfl (bl133_0_1 _ _ _ _)) ?_; go_step)) | ((with_reducible refine gs9 29 ?_); (refine wvv9 (V.len Tryd.underlying24 rfl) ?_; go_step)) | ((fail_if_success with_reducible refine ga9 ?_); go_step))
 have h2 := ((hS.sub (xs := [own 3 1 (some ⟨g25, 0, none⟩) 1 1 [.int .i64 (-1)], own 133 2 (some ⟨g27, 0, none⟩) 1 1 [.int .i64 0, .slice (some ⟨g25, 0, none⟩) 1 1], prt g2 [.ints (List.replicate 16 0), .val (.slice none 0 0)]]) sb9).star0).starPut .head
 clear hS
 go_loopg [5, 30] n (fun gk sv iv w => ∃ (k N : Nat) (aa : Option Addr) (ca : Nat) (G : List GP) (L : List Sr), gk + k = n ∧ N = G.length ∧ N ≤ k + 1 ∧ 1 ≤ N ∧ iv = .int .i64 k ∧ sv = .slice aa N ca ∧ G.map gpM = sgs c k ∧ (∀ p ∈ G, p.r ∈ L) ∧
  St w0 w [own 133 2 aa N ca ((G.map gpV).flatMap pkE), star (L.map Sr.res), prt g2 [.ints (List.replicate 16 0), .val (.slice none 0 0)]])
 case atStart => exact ⟨0, 1, _, _, [⟨0, ⟨some ⟨g25, 0, none⟩, 1, [-1]⟩⟩], [⟨some ⟨g25, 0, none⟩, 1, [-1]⟩], by omega, rfl, by omega, by omega, rfl, rfl, rfl, by intro p hp; simp at hp; subst hp; simp, by
  have h3 := h2.sub (xs := [own 133 2 (some ⟨g27, 0, none⟩) 1 1 [.int .i64 0, .slice (some ⟨g25, 0, none⟩) 1 1], star ([] ++ [own 3 1 (some ⟨g25, 0, none⟩) 1 1 [.int .i64 (-1)]]), prt g2 [.ints (List.replicate 16 0), .val (.slice none 0 0)]]) sb9
  have e1 : ([⟨0, ⟨some ⟨g25, 0, none⟩, 1, [-1]⟩⟩] : List GP).map gpV = [⟨0, some ⟨g25, 0, none⟩, 1, 1⟩] := rfl
  have e2 : ([⟨0, some ⟨g25, 0, none⟩, 1, 1⟩] : List PkV).flatMap pkE = [.int .i64 0, .slice (some ⟨g25, 0, none⟩) 1 1] := rfl
  have e3 : ([⟨some ⟨g25, 0, none⟩, 1, [-1]⟩] : List Sr).map Sr.res = [own 3 1 (some ⟨g25, 0, none⟩) 1 1 [.int .i64 (-1)]] := rfl
  rw [e1, e2, e3]; exact h3⟩
 case round =>
  clear h2
  obtain ⟨k, N, aa, ca, G, L, hk, hN, hN2, hN3, rfl, rfl, hG, hL, hS⟩ := hrel
  have HG := hid hG
  have HL := hid hL
  clear hG hL
  by_cases hlt : k < n
  · have hs := sgs_succ c k
    have hx := HRNG.out k hlt
    obtain ⟨x, hxx⟩ : ∃ x, nth c k = x := ⟨_, rfl⟩
    have HXX := hid hxx
    rw [hxx] at hs hx
    by_cases hx0 : 0 < x
    · rw [if_pos hx0] at hs
      have HSG := hid hs
      clear hs
      repeat' (first
       | (refine y91 ?_) | (refine y955 ?_) | ((with_reducible refine gs9 33 ?_); (refine wpl_indexI (by with_reducible assumption) Tryd.underlying24 isz3 rfl rfl isn9 (by omega) rfl ?_; intro b33 o33 hc33; go_step)) | (refine y9124 ?_) | ((fail_if_success with_reducible refine ga9 ?_); go_step))
      rw [HXX.out]
      repeat' (first
       | (refine y9146 ?_) | ((with_reducible refine gs9 36 ?_); (refine wvv9 (V.gtr rfl rfl) ?_; go_step)) | ((fail_if_success with_reducible refine ga9 ?_); go_step))
      repeat' (first
       | ((with_reducible refine gs9 40 ?_); (refine wl9 ?_; apply wp_buildSliceO (o := ⟨some 40, _, _, _, _, _⟩) hS 24 1 _ rfl 3 1 8 el24 _ _; (case hvs => (repeat (first | exact Parts.nil | (apply Parts.agg; (rfl); (rfl)) | (apply Parts.one; exact isv9; (rfl); (rfl))))); (case hn => rfl); (case hn0 => decide); (case hns => decide); clear hS; intro g40 w hS; refine put_move ?_; go_step)) | (refine y92 ?_) | ((with_reducible refine gs9 41 ?_); (refine wvv9 (V.build (vs := [(0, _), (1, _)]) rfl (bl133_0_1 _ _ _ _)) ?_; go_step)) | ((with_reducible refine gs9 42 ?_); (refine wl9 ?_; apply wp_buildSlice1 (o := ⟨some 42, _, _, _, _, _⟩) hS 134 1 _ rfl 133 2 32 el134 _ _; (case hvs => (repeat (first | exact Parts.nil | (apply Parts.agg; (rfl); (rfl)) | (apply Parts.one; exact isv9; (rfl); (rfl))))); (case hn => rfl); (case hn0 => decide); (case hns => decide); clear hS; intro g42 w hS; simp only [List.cons_append, List.nil_append] at hS; refine put_move ?_; go_step)) | ((with_reducible refine gs9 43 ?_); (refine wl9 ?_; apply wp_append (o := ⟨some 43, _, _, _, _, _⟩) hS _ _ 134 rfl 133 2 32 el134 _ _ _ _ rfl; (case hp => exact pl9); (case hx => exact rfl); (case hm => (first | exact hS.slBlk pl9 (by rfl) (by decide) | exact hS.sl pl9 | with_reducible assumption | exact Sl.ext (by with_reducible assumption) hS.1 | exact Sl.nil _ _ | exact Sl.ext (by assumption) hS.1 | assumption)); (case h1 => (first | exact oneAll rfl | exact oneMap _ _ | (intro u hu; cases hu))); (case h63 => unfold maxLen; omega); (case hb => omega); clear hS; intro ad43 c43 w hS; (first | simp only [mapk1] at hS | simp only [mapk2] at hS | simp only [mapk3] at hS | simp only [mapk4] at hS | simp only [mapkl] at hS | skip); refine put_move ?_; go_step)) | ((fail_if_success with_reducible refine ga9 ?_); go_step))
      repeat' (first
       | (refine y962 ?_) | (refine y9146 ?_) | ((fail_if_success with_reducible refine ga9 ?_); go_step))
      have h2 := (hS.sub (xs := [star (L.map Sr.res), own 3 1 (some ⟨g40, 0, none⟩) 1 1 [.int .i64 (k : Nat)], own 133 2 ad43 (N + 1) c43 ((G.map gpV).flatMap pkE ++ [.int .i64 x, .slice (some ⟨g40, 0, none⟩) 1 1]), prt g2 [.ints (List.replicate 16 0), .val (.slice none 0 0)]]) sb9).starPut .head
      go_roundg (gk - 1)
      case measure => omega
      case rel =>
       refine ⟨k + 1, N + 1, ad43, c43, G ++ [⟨x, ⟨some ⟨g40, 0, none⟩, 1, [(k : Int)]⟩⟩], L ++ [⟨some ⟨g40, 0, none⟩, 1, [(k : Int)]⟩], by omega, by simp; omega, by omega, by omega, by go_num, rfl, ?_, ?_, ?_⟩
       · rw [List.map_append, HG.out, HSG.out]; rfl
       · intro p hp
         rcases List.mem_append.1 hp with hp | hp
         · exact List.mem_append_left _ (HL.out p hp)
         · simp at hp; subst hp; simp
       · rw [gp_snoc, List.map_append]
         exact h2.sub (xs := [own 133 2 ad43 (N + 1) c43 ((G.map gpV).flatMap pkE ++ [.int .i64 x, .slice (some ⟨g40, 0, none⟩) 1 1]), star (L.map Sr.res ++ [own 3 1 (some ⟨g40, 0, none⟩) 1 1 [.int .i64 (k : Nat)]]), prt g2 [.ints (List.replicate 16 0), .val (.slice none 0 0)]]) sb9
    · rw [if_neg hx0] at hs
      have HSG := hid hs
      clear hs
      repeat' (first
       | (refine y91 ?_) | (refine y955 ?_) | ((with_reducible refine gs9 33 ?_); (refine wpl_indexI (by with_reducible assumption) Tryd.underlying24 isz3 rfl rfl isn9 (by omega) rfl ?_; intro b33 o33 hc33; go_step)) | (refine y9124 ?_) | ((fail_if_success with_reducible refine ga9 ?_); go_step))
      rw [HXX.out]
      repeat' (first
       | ((with_reducible refine gs9 36 ?_); (refine wvv9 (V.gtr rfl rfl) ?_; go_step)) | ((fail_if_success with_reducible refine ga9 ?_); go_step))
      repeat' (first
       | (refine y962 ?_) | (refine y9146 ?_) | ((fail_if_success with_reducible refine ga9 ?_); go_step))
      go_roundg (gk - 1)
      case measure => omega
      case rel => exact ⟨k + 1, N, aa, ca, G, L, by omega, hN, by omega, hN3, by go_num, rfl, by rw [HG.out, HSG.out], HL.out, hS⟩
  · obtain rfl : k = n := by omega
    obtain ⟨g5, rfl⟩ := own_some hS .head (by omega)
    have hNl : (sgs c k).length = N := by rw [← HG.out, List.length_map, hN]
    have HNL := hid hNl
    clear hNl
    replace hS : St w0 wr [gpks g5 N ca G, star (L.map Sr.res), prt g2 [.ints (List.replicate 16 0), .val (.slice none 0 0)]] := hS
    repeat' (first
     | (refine y9146 ?_) | (refine y955 ?_) | ((fail_if_success with_reducible refine ga9 ?_); go_step))
    repeat' (first
     | ((with_reducible refine gt9 _ (.call ⟨.value (.func 66), _, _⟩) ?_); refine wpl_call (f := 66) Tryd.call66 kr9 ?_; refine ⟨_, (sortStable_any w0 _ _ _ g5 N ca (G.map gpV) hS .head (by omega)), ?_⟩; rintro e w ⟨rfl, Q0, hQ1, hQ2, hS2⟩; replace hS := hS2; clear hS2; refine ⟨_, rfl, ?_⟩; refine put_move ?_; go_step) | (refine y9146 ?_) | ((fail_if_success with_reducible refine ga9 ?_); go_step))
    obtain ⟨G1, hG1, rfl⟩ := gp_perm hQ1
    have hR1 : RowK (sgs c k) 1 (G1.map gpM) := .one _ (HG.out ▸ hG1.map gpM) (gp_srt hQ2)
    have hL1 : ∀ p ∈ G1, p.r ∈ L := fun p hp => HL.out p (hG1.mem_iff.1 hp)
    have hN1 : N = G1.length := by rw [hG1.length_eq]; exact hN
    have HP1 : Hid ((G1.map gpM).Perm (sgs c k)) := HG.out ▸ hG1.map gpM
    have HR1 := hid hR1
    have HL1 := hid hL1
    clear hQ1 hQ2 hR1 hL1 hG1 HL HG hN
    repeat' (first
     | ((with_reducible refine gt9 _ (.call ⟨.value (.func 68), _, _⟩) ?_); refine wpl_call (f := 68) Tryd.call68 kr9 ?_; refine ⟨_, (clone_any w0 _ _ _ g5 N ca (G1.map gpV) hS .head (by omega) (by omega)), ?_⟩; rintro e w ⟨g8, c8, rfl, hS2⟩; replace hS := hS2; clear hS2; refine ⟨_, rfl, ?_⟩; refine put_move ?_; go_step) | (refine y91 ?_) | ((fail_if_success with_reducible refine ga9 ?_); go_step))
    repeat' (first
     | ((fail_if_success with_reducible refine ga9 ?_); go_step))
    go_loopg [8, 49] 15 (fun gk rv iv w => ∃ (j M a8 c8 : Nat) (G2 : List GP) (L : List Sr), gk + j = 15 ∧ M = G2.length ∧ iv = .int .i64 j ∧ rv = .slice (some ⟨a8, 0, none⟩) M c8 ∧ RowK (sgs c k) (j + 1) (G2.map gpM) ∧ (∀ p ∈ G2, p.r ∈ L) ∧ (∀ p ∈ G1, p.r ∈ L) ∧
     St w0 w [gpks a8 M c8 G2, gpks g5 N ca G1, star (L.map Sr.res), prt g2 [.ints (List.replicate 16 0), .val (.slice none 0 0)]])
    case atStart => exact ⟨0, N, g8, c8, G1, L, by omega, hN1, rfl, rfl, HR1.out, HL1.out, HL1.out, hS⟩
    case round =>
     clear hS HL1 HR1
     obtain ⟨j, M, a8, c8, G2, L, hj, hM, rfl, rfl, hR2, hL2, hL1, hS⟩ := hrel
     have hM2 := hR2.len
     rw [HNL.out, List.length_map, ← hM] at hM2
     have HR2 := hid hR2
     have HL1 := hid hL1
     by_cases hlt : j < 15
     · obtain ⟨gk1, hgk1⟩ : ∃ x, x = gk := ⟨_, rfl⟩
       subst hgk1
       have hbd := row_bd HRNG.out hn3 (show j + 1 ≤ 16 by omega) hR2
       have HBD := hid hbd
       have HL2 := hid hL2
       clear hR2 hL1 hL2 hbd
       repeat' (first
        | (refine y92 ?_) | ((with_reducible refine gs9 50 ?_); (refine wvv9 (V.lss rfl rfl) ?_; go_step)) | ((fail_if_success with_reducible refine ga9 ?_); go_step))
       go_loopg [9, 10] M (fun gk sv iv w => ∃ (q : Nat) (aa : Option Addr) (ca' : Nat) (GN : List GP) (L : List Sr), gk + q = M ∧ 2 * q ≤ M ∧ q = GN.length ∧ iv = .int .i64 (2 * q : Nat) ∧ sv = .slice aa q ca' ∧ GN.map gpM = (pkgs (G2.map gpM)).take q ∧ (∀ p ∈ GN, p.r ∈ L) ∧ (∀ p ∈ G2, p.r ∈ L) ∧ (∀ p ∈ G1, p.r ∈ L) ∧
        St w0 w [own 133 2 aa q ca' ((GN.map gpV).flatMap pkE), gpks a8 M c8 G2, gpks g5 N ca G1, star (L.map Sr.res), prt g2 [.ints (List.replicate 16 0), .val (.slice none 0 0)]])
       case atStart => exact ⟨0, none, 0, [], L, by omega, by omega, rfl, rfl, rfl, by simp, (fun p hp => by cases hp), HL2.out, HL1.out, hS.nil 133 2⟩
       case round =>
        clear hS HL1 HL2
        obtain ⟨q, aa, ca', GN, L, hq, hqM, hqn, rfl, rfl, hGN, hLN, hL2, hL1, hS⟩ := hrel
        have HGN := hid hGN
        have HLN := hid hLN
        have HL2 := hid hL2
        have HL1 := hid hL1
        clear hGN hLN hL2 hL1
        by_cases hlt2 : 2 * q + 1 < M
        · obtain ⟨p1, hp1, e1, m1⟩ := gp_at G2 (2 * q) (by omega)
          obtain ⟨p2, hp2, e2, m2⟩ := gp_at G2 (2 * q + 1) (by omega)
          have hpk := pkgs_take (G2.map gpM) q (by rw [List.length_map]; omega)
          rw [m1, m2] at hpk
          have b1 := HBD.out (gpM p1) (List.mem_map.2 ⟨p1, hp1, rfl⟩)
          have b2 := HBD.out (gpM p2) (List.mem_map.2 ⟨p2, hp2, rfl⟩)
          have hw1 : 0 ≤ (elt (G2.map gpV) (2 * q)).w ∧ (elt (G2.map gpV) (2 * q)).w ≤ 50000000 := by rw [e1]; exact ⟨b1.1, b1.2.1⟩
          have hw2 : 0 ≤ (elt (G2.map gpV) (2 * q + 1)).w ∧ (elt (G2.map gpV) (2 * q + 1)).w ≤ 50000000 := by rw [e2]; exact ⟨b2.1, b2.2.1⟩
          have hl12 : (([p1.r, p2.r] : List Sr).flatMap (·.xs)).length ≤ 1000000 := by
           have c1 : p1.r.xs.length ≤ 5000 := b1.2.2
           have c2 : p2.r.xs.length ≤ 5000 := b2.2.2
           simp; omega
          have r1 := HL2.out p1 hp1
          have r2 := HL2.out p2 hp2
          have HPK := hid hpk
          have E1 := hid e1
          have E2 := hid e2
          have H12 := hid hl12
          have R1 := hid r1
          have R2 := hid r2
          have he := pkE_len
          have hCC : Hid (∀ (w : World) (g82 : Nat) (rs rs' : List Res), St w0 w rs → Pull (star (L.map Sr.res)) rs rs' → Sl w 1 (.slice (some ⟨g82, 0, none⟩) 2 2) 2 [.slice (elt (G2.map gpV) (2 * q)).ad (elt (G2.map gpV) (2 * q)).n (elt (G2.map gpV) (2 * q)).c, .slice (elt (G2.map gpV) (2 * q + 1)).ad (elt (G2.map gpV) (2 * q + 1)).n (elt (G2.map gpV) (2 * q + 1)).c] →
           Calls Tryd.prog 69 #[.slice (some ⟨g82, 0, none⟩) 2 2] w fun e w' => ∃ (ad : Option Addr) (c : Nat), e = .returned (.slice ad (p1.r.xs ++ p2.r.xs).length c) ∧ St w w' [own 3 1 ad (p1.r.xs ++ p2.r.xs).length c ((p1.r.xs ++ p2.r.xs).map (Value.int .i64))]) := fun w g82 rs rs' h p hsl => by
           rw [e1, e2] at hsl
           have hc := concat_any w g82 2 2 [p1.r, p2.r] hsl (fun r hr => by
            simp only [List.mem_cons, List.mem_nil_iff, or_false] at hr
            rcases hr with rfl | rfl
            · exact star_row h p r1
            · exact star_row h p r2) (by omega) hl12
           simpa using hc
          clear hp1 hp2 e1 e2 m1 m2 hpk b1 b2 hl12 r1 r2
          repeat' (first
           | (refine y971 ?_) | (refine y9146 ?_) | ((with_reducible refine gs9 54 ?_); (refine wvv9 (V.len Tryd.underlying134 rfl) ?_; go_step)) | ((with_reducible refine gs9 55 ?_); (refine wvv9 (V.lss rfl rfl) ?_; go_step)) | ((fail_if_success with_reducible refine ga9 ?_); go_step))
          refine drawn_lit [27, 28] (fun w => St w0 w [gpks a8 M c8 G2]) kr9 ?_
          replace hS := hS.drew
          focus
           refine takeM 0 _ al9 kr9 kr9 kr9 hq9 rfl ?_
           go_step
           refine takeM 1 _ al9 kr9 kr9 kr9 hq9 rfl ?_
           go_step
           refine takeM 2 _ al9 kr9 kr9 kr9 hq9 rfl ?_
           go_step
           (refine takeV 3 _ al9 kr9 kr9 kr9 hq9 (V.indexSl Tryd.underlying134 isz133 rfl rfl isn9 (by omega) rfl nq9) rfl ?_)
           go_step
           (refine takeV 4 _ al9 kr9 kr9 kr9 hq9 (V.fieldAddr fo133_0 rfl nq9) rfl ?_)
           go_step
           apply takeS 5 al9 kr9 kr9 kr9 hq9 [12, 26, 27, 28, 29] kr9 (hS.sub sb9)
           case hfr => intro w hS; ((refine wl9 ?_; apply wp_load1E0 hS 3 _ rfl _ _ rfl (one_of rfl) _ _ _ _ _ _; (case hp => exact pl9); (case inst => infer_instance); (case he => with_reducible assumption); (case hq => exact rfl); (case hj => omega); (case hv => exact rfl); refine put_move ?_; go_step)); refine wpList_nil ?_; exact ⟨rfl, rfl⟩
           case hd => rfl
           refine takeM 6 _ al9 kr9 kr9 kr9 hq9 rfl ?_
           go_step
           refine takeM 7 _ al9 kr9 kr9 kr9 hq9 rfl ?_
           go_step
           (refine takeV 8 (.int _ (((2 * q + 1 : Nat) : Int))) al9 kr9 kr9 kr9 hq9 (V.as (V.addI rfl rfl (by omega)) (by omega)) rfl ?_)
           go_step
           (refine takeV 9 _ al9 kr9 kr9 kr9 hq9 (V.indexSl Tryd.underlying134 isz133 rfl rfl isn9 (by omega) rfl nq9) rfl ?_)
           go_step
           (refine takeV 10 _ al9 kr9 kr9 kr9 hq9 (V.fieldAddr fo133_0 rfl nq9) rfl ?_)
           go_step
           apply takeS 11 al9 kr9 kr9 kr9 hq9 [12, 26, 27, 28, 29] kr9 (hS.sub sb9)
           case hfr => intro w hS; ((refine wl9 ?_; apply wp_load1E0 hS 3 _ rfl _ _ rfl (one_of rfl) _ _ _ _ _ _; (case hp => exact pl9); (case inst => infer_instance); (case he => with_reducible assumption); (case hq => exact rfl); (case hj => omega); (case hv => exact rfl); refine put_move ?_; go_step)); refine wpList_nil ?_; exact ⟨rfl, rfl⟩
           case hd => rfl
           (refine takeV 12 _ al9 kr9 kr9 kr9 hq9 (V.addI rfl rfl (by omega)) rfl ?_)
           go_step
           refine takeM 13 _ al9 kr9 kr9 kr9 hq9 rfl ?_
           go_step
           refine takeM 14 _ al9 kr9 kr9 kr9 hq9 rfl ?_
           go_step
           (refine takeV 15 _ al9 kr9 kr9 kr9 hq9 (V.indexSl Tryd.underlying134 isz133 rfl rfl isn9 (by omega) rfl nq9) rfl ?_)
           go_step
           (refine takeV 16 _ al9 kr9 kr9 kr9 hq9 (V.fieldAddr fo133_1 rfl nq9) rfl ?_)
           go_step
           apply takeS 17 al9 kr9 kr9 kr9 hq9 [24, 25, 26, 27, 28, 29] kr9 (hS.sub sb9)
           case hfr => intro w hS; ((refine wl9 ?_; apply wp_load1E hS 24 _ rfl _ _ rfl (one_of rfl) _ _ _ _ _ _; (case hp => exact pl9); (case inst => infer_instance); (case he => with_reducible assumption); (case hq => exact rfl); (case hj => omega); (case hv => exact rfl); refine put_move ?_; go_step)); refine wpList_nil ?_; exact ⟨rfl, rfl⟩
           case hd => rfl
           refine takeM 18 _ al9 kr9 kr9 kr9 hq9 rfl ?_
           go_step
           refine takeM 19 _ al9 kr9 kr9 kr9 hq9 rfl ?_
           go_step
           (refine takeV 20 _ al9 kr9 kr9 kr9 hq9 (V.addI rfl rfl (by omega)) rfl ?_)
           go_step
           (refine takeV 21 _ al9 kr9 kr9 kr9 hq9 (V.indexSl Tryd.underlying134 isz133 rfl rfl isn9 (by omega) rfl nq9) rfl ?_)
           go_step
           (refine takeV 22 _ al9 kr9 kr9 kr9 hq9 (V.fieldAddr fo133_1 rfl nq9) rfl ?_)
           go_step
           apply takeS 23 al9 kr9 kr9 kr9 hq9 [24, 25, 26, 27, 28, 29] kr9 (hS.sub sb9)
           case hfr => intro w hS; ((refine wl9 ?_; apply wp_load1E hS 24 _ rfl _ _ rfl (one_of rfl) _ _ _ _ _ _; (case hp => exact pl9); (case inst => infer_instance); (case he => with_reducible assumption); (case hq => exact rfl); (case hj => omega); (case hv => exact rfl); refine put_move ?_; go_step)); refine wpList_nil ?_; exact ⟨rfl, rfl⟩
           case hd => rfl
           refine branch1 24 al9 rfl kr9 ?_
           (refine wp_buildSlice1 (o := ⟨some 82, _, _, _, _, _⟩) hS 160 2 _ rfl 24 1 24 el160 _ _ (by (repeat (first | exact Parts.nil | (apply Parts.agg; (rfl); (rfl)) | (apply Parts.one; exact isv9; (rfl); (rfl))))) (by rfl) (by decide) (by decide) ?_; clear hS; intro g82 w hS)
           refine ⟨fun _ _ => hS.sub sb9, ?_⟩
           refine drawn_move ?_
           go_step
           refine branch1 25 al9 rfl kr9 ?_
           refine wp_callF (f := 69) rfl Tryd.call69 (hCC.out _ _ _ _ hS pl9 (hS.slBlk (n := 2) pl9 (by rfl) (by decide))) ?_; rintro e w ⟨ad83, c83, rfl, hS2⟩; replace hS := hS.call1 hS2; clear hS2; refine ⟨_, rfl, ?_⟩
           refine ⟨fun _ _ => hS.sub sb9, ?_⟩
           refine drawn_move ?_
           go_step
           (refine takeV 26 _ al9 kr9 kr9 kr9 hq9 (V.build (vs := [(0, _), (1, _)]) rfl (bl133_0_1 _ _ _ _)) rfl ?_)
           go_step
           refine branch1 27 al9 rfl kr9 ?_
           (refine wp_buildSlice1 (o := ⟨some 85, _, _, _, _, _⟩) hS 134 1 _ rfl 133 2 32 el134 _ _ (by (repeat (first | exact Parts.nil | (apply Parts.agg; (rfl); (rfl)) | (apply Parts.one; exact isv9; (rfl); (rfl))))) (by rfl) (by decide) (by decide) ?_; clear hS; intro g85 w hS; simp only [List.cons_append, List.nil_append] at hS)
           refine ⟨fun h => absurd (by decide) h, ?_⟩
           refine drawn_move ?_
           go_step
           refine branch1 28 al9 rfl kr9 ?_
           (refine wp_append (o := ⟨some 86, _, _, _, _, _⟩) hS _ _ 134 rfl 133 2 32 el134 _ _ _ _ rfl pl9 _ rfl _ _ (by (first | exact hS.slBlk pl9 (by rfl) (by decide) | exact hS.sl pl9 | with_reducible assumption | exact Sl.ext (by with_reducible assumption) hS.1 | exact Sl.nil _ _ | exact Sl.ext (by assumption) hS.1 | assumption)) (by (first | exact oneAll rfl | exact oneMap _ _ | (intro u hu; cases hu))) (by unfold maxLen; omega) (by omega) ?_; clear hS; intro ad86 c86 w hS; (first | simp only [mapk1] at hS | simp only [mapk2] at hS | simp only [mapk3] at hS | simp only [mapk4] at hS | simp only [mapkl] at hS | skip))
           refine ⟨fun h => absurd (by decide) h, ?_⟩
           refine drawn_move ?_
           go_step
           refine takeA 29 _ al9 kr9 kr9 kr9 hq9 rfl ?_
           go_step
           refine drawn_done kr9 ?_ _
          repeat' (first
           | ((with_reducible refine gs9 57 ?_); (refine wplV (.int _ (((2 * (q + 1) : Nat) : Int))) (V.as (V.addI rfl rfl (by omega)) (by omega)) rfl ?_; go_step)) | (refine y91 ?_) | ((fail_if_success with_reducible refine ga9 ?_); go_step))
          obtain ⟨w12, hw12⟩ : ∃ w12, (elt (G2.map gpV) (2 * q)).w + (elt (G2.map gpV) (2 * q + 1)).w = w12 := ⟨_, rfl⟩
          rw [hw12] at hS
          have h2 := (hS.sub (xs := [star (L.map Sr.res), own 3 1 ad83 (p1.r.xs ++ p2.r.xs).length c83 ((p1.r.xs ++ p2.r.xs).map (Value.int .i64)), own 133 2 ad86 (q + 1) c86 ((GN.map gpV).flatMap pkE ++ [.int .i64 w12, .slice ad83 (p1.r.xs ++ p2.r.xs).length c83]), gpks a8 M c8 G2, gpks g5 N ca G1, prt g2 [.ints (List.replicate 16 0), .val (.slice none 0 0)]]) sb9).starPut .head
          go_roundg (gk - 1)
          case measure => omega
          case rel =>
           refine ⟨q + 1, ad86, c86, GN ++ [⟨w12, ⟨ad83, c83, p1.r.xs ++ p2.r.xs⟩⟩], L ++ [⟨ad83, c83, p1.r.xs ++ p2.r.xs⟩], by omega, by omega, by simp; omega, by go_num, rfl, ?_, ?_, fun p hp => List.mem_append_left _ (HL2.out p hp), fun p hp => List.mem_append_left _ (HL1.out p hp), ?_⟩
           · rw [List.map_append, HGN.out, HPK.out, ← hw12, E1.out, E2.out]; rfl
           · intro p hp
             rcases List.mem_append.1 hp with hp | hp
             · exact List.mem_append_left _ (HLN.out p hp)
             · simp at hp; subst hp; simp
           · rw [gp_snoc, List.map_append]
             exact h2.sub (xs := [own 133 2 ad86 (q + 1) c86 ((GN.map gpV).flatMap pkE ++ [.int .i64 w12, .slice ad83 (p1.r.xs ++ p2.r.xs).length c83]), gpks a8 M c8 G2, gpks g5 N ca G1, star (L.map Sr.res ++ [own 3 1 ad83 (p1.r.xs ++ p2.r.xs).length c83 ((p1.r.xs ++ p2.r.xs).map (Value.int .i64))]), prt g2 [.ints (List.replicate 16 0), .val (.slice none 0 0)]]) sb9
        · have hGN2 : GN.map gpM = pkgs (G2.map gpM) := by rw [HGN.out, List.take_of_length_le (by rw [pairs_len, List.length_map]; omega)]
          have HGN2 := hid hGN2
          clear hGN2 HGN
          have he := pkE_all (G1.map gpV)
          repeat' (first
           | (refine y971 ?_) | (refine y9146 ?_) | ((with_reducible refine gs9 54 ?_); (refine wvv9 (V.len Tryd.underlying134 rfl) ?_; go_step)) | ((with_reducible refine gs9 55 ?_); (refine wvv9 (V.lss rfl rfl) ?_; go_step)) | ((fail_if_success with_reducible refine ga9 ?_); go_step))
          repeat' (first
           | ((with_reducible refine gs9 89 ?_); refine wl9 ?_; refine wp_append (o := ⟨some 89, _, _, _, _, _⟩) hS _ _ 134 rfl 133 2 32 el134 _ _ _ _ rfl pl9 _ rfl N _ (hS.sl (show Pull (gpks g5 N ca G1) _ _ from pl9)) he (by unfold maxLen; omega) (by omega) ?_; clear hS; intro ad89 c89 w hS; refine put_move ?_; go_step) | (refine y91 ?_) | ((fail_if_success with_reducible refine ga9 ?_); go_step))
          rw [← gp_app] at hS
          obtain ⟨g89, rfl⟩ := own_some hS .head (by omega)
          repeat' (first
           | ((with_reducible refine gt9 _ (.call ⟨.value (.func 66), _, _⟩) ?_); refine wpl_call (f := 66) Tryd.call66 kr9 ?_; refine ⟨_, (sortStable_any w0 _ _ _ g89 (q + N) c89 ((GN ++ G1).map gpV) hS .head (by omega)), ?_⟩; rintro e w ⟨rfl, Q0, hQ1, hQ2, hS2⟩; replace hS := hS2; clear hS2; refine ⟨_, rfl, ?_⟩; refine put_move ?_; go_step) | ((fail_if_success with_reducible refine ga9 ?_); go_step))
          obtain ⟨G3, hG3, rfl⟩ := gp_perm hQ1
          have hR3 : RowK (sgs c k) (j + 2) (G3.map gpM) := by
           refine RowK.more HR2.out ?_ (gp_srt hQ2)
           have := hG3.map gpM
           rw [List.map_append, HGN2.out] at this
           exact this.trans (List.Perm.append_left _ HP1.out)
          have hL3 : ∀ p ∈ G3, p.r ∈ L := fun p hp => (List.mem_append.1 (hG3.mem_iff.1 hp)).elim (HLN.out p) (HL1.out p)
          have hN3' : q + N = G3.length := by rw [hG3.length_eq, List.length_append, ← hqn, ← hN1]
          have HR3 := hid hR3
          have HL3 := hid hL3
          clear hQ1 hQ2 hR3 hL3 hG3
          repeat' (first
           | ((with_reducible refine gs9 92 ?_); (refine wplV (.int _ (((j + 1 : Nat) : Int))) (V.as (V.addI rfl rfl (by omega)) (by omega)) rfl ?_; go_step)) | (refine y9146 ?_) | ((fail_if_success with_reducible refine ga9 ?_); go_step))
          go_roundg (gk1 - 1)
          case measure => omega
          case rel => exact ⟨j + 1, q + N, g89, c89, G3, L, by omega, hN3', by go_num, rfl, HR3.out, HL3.out, HL1.out, hS.sub sb9⟩
     · obtain rfl : j = 15 := by omega
       have HL2 := hid hL2
       clear hR2 hL2 hL1 HL1
       obtain ⟨Tn, hTn⟩ : ∃ Tn, 2 * N - 2 = Tn := ⟨_, rfl⟩
       have hMc : M ≤ c8 := by
        have := hS.sl (show Pull (gpks a8 M c8 G2) _ _ from .head)
        obtain ⟨_, _, _, e, h1, _⟩ := this
        cases e; exact h1
       have hlong := HR2.out.long (by rw [HNL.out]; omega)
       rw [HNL.out, List.length_map, ← hM] at hlong
       have hd0 : N / 2 ^ (15 + 1 - 1) = 0 := Nat.div_eq_of_lt (by omega)
       rw [hd0] at hlong
       have hTM : Tn ≤ M := by omega
       clear hd0 hlong
       obtain ⟨f, hf⟩ : ∃ f : Int → Nat, f = lng ((G2.map gpM).take Tn) := ⟨_, rfl⟩
       replace hS := hS.sub (xs := [gpks a8 M c8 G2, gpks g5 N ca G1, star (L.map Sr.res), prt g2 [.ints (List.replicate 16 0), .val (.slice none 0 0)]]) sb9
       repeat' (first
        | ((with_reducible refine gs9 50 ?_); (refine wvv9 (V.lss rfl rfl) ?_; go_step)) | ((fail_if_success with_reducible refine ga9 ?_); go_step))
       repeat' (first
        | ((with_reducible refine gs9 97 ?_); (refine wplV (.int _ (((2 * N : Nat) : Int))) (V.as (V.mulI rfl rfl (by omega)) (by omega)) rfl ?_; go_step)) | ((with_reducible refine gs9 98 ?_); (refine wplV (.int _ (((Tn : Nat) : Int))) (V.as (V.subI rfl rfl (by omega)) (by omega)) rfl ?_; go_step)) | (refine y91 ?_) | ((with_reducible refine gs9 96 ?_); (refine wvv9 (V.len Tryd.underlying134 rfl) ?_; go_step)) | ((with_reducible refine gs9 99 ?_); (refine wvv9 (V.slice Tryd.underlying134 isz133 rfl (by (first | exact Lo.none | exact Lo.some rfl isn9)) (by (first | exact Up.none | exact Up.some rfl isn9)) (by omega) (by omega)) ?_; go_step)) | ((with_reducible refine gs9 100 ?_); (refine wvv9 (V.len Tryd.underlying134 rfl) ?_; go_step)) | ((with_reducible refine gs9 93 ?_); (refine wl9 ?_; apply wp_makeMap (o := ⟨some 93, _, _, _, _, _⟩) ik hS 89 rfl; clear hS; intro g93 w hS; refine put_move ?_; go_step)) | ((fail_if_success with_reducible refine ga9 ?_); go_step))
       replace hS := hS.sub (xs := [mp ik g93 (fun _ => none), gpks a8 M c8 G2, star (L.map Sr.res), prt g2 [.ints (List.replicate 16 0), .val (.slice none 0 0)]]) sb9
       rw [cutAt_zero, Nat.sub_zero, Nat.sub_zero]
       rw [← cntF_nil] at hS
       go_loopg [101] Tn (fun gk iv w => ∃ (a : Nat), gk + a = Tn ∧ iv = .int .i64 a ∧ St w0 w [mp ik g93 (cntF (syl ((G2.map gpM).take a))), gpks a8 M c8 G2, star (L.map Sr.res), prt g2 [.ints (List.replicate 16 0), .val (.slice none 0 0)]])
       case atStart => exact ⟨0, by omega, rfl, hS⟩
       case round =>
        clear hS
        obtain ⟨a, ha, rfl, hS⟩ := hrel
        by_cases hlt3 : a < Tn
        · obtain ⟨gk2, hgk2⟩ : ∃ x, x = gk := ⟨_, rfl⟩
          subst hgk2
          obtain ⟨⟨pw, pa, pcp, px⟩, hp, e1, m1⟩ := gp_at G2 a (by omega)
          have hpr : (⟨pa, pcp, px⟩ : Sr) ∈ L := HL2.out _ hp
          have e1' : elt (G2.map gpV) a = ⟨pw, pa, px.length, pcp⟩ := e1
          have htk : syl ((G2.map gpM).take (a + 1)) = syl ((G2.map gpM).take a) ++ px := by
           have hlt4 : a < (G2.map gpM).length := by rw [List.length_map]; omega
           rw [List.take_succ_eq_append_getElem hlt4, syl_append, syl_cons]
           have : (G2.map gpM)[a] = gpM ⟨pw, ⟨pa, pcp, px⟩⟩ := by rw [← m1]; exact elt_get _ _ hlt4
           rw [this]; simp [gpM, syl]
          have hpl : px.length ≤ 5000 := (row_bd HRNG.out hn3 (by omega) HR2.out (gpM ⟨pw, ⟨pa, pcp, px⟩⟩) (List.mem_map.2 ⟨_, hp, rfl⟩)).2.2
          have HTK := hid htk
          have HPR := hid hpr
          have E1 := hid e1'
          obtain ⟨Y, hY⟩ : ∃ Y, syl ((G2.map gpM).take a) = Y := ⟨_, rfl⟩
          rw [hY] at hS HTK
          have HY := hid hY
          clear htk hpr e1' e1 m1 hp hY
          have he := pkE_len
          repeat' (first
           | ((with_reducible refine gs9 102 ?_); (refine wvv9 (V.lss rfl rfl) ?_; go_step)) | ((with_reducible refine gs9 103 ?_); (refine wvv9 (V.indexSl Tryd.underlying134 isz133 rfl rfl isn9 (by omega) rfl nq9) ?_; go_step)) | ((with_reducible refine gt9 _ (.load 133 _) ?_); (refine wl9 ?_; apply wp_loadE hS 133 _ rfl _ _ rfl 2 (row_of rfl) _ _ _ _ _; (case hp => exact pl9); (case inst => infer_instance); (case he => with_reducible assumption); (case hq => exact rfl); (case hj => omega); refine put_move ?_; go_step)) | ((with_reducible refine gs9 13 ?_); (refine wl9 ?_; apply wp_alloc (o := ⟨some 13, _, _, _, _, _⟩) hS 133 rfl (.agg #[.int .i64 0, .slice none 0 0]) [.int .i64 0, .slice none 0 0] (fun w => Tryd.zeroValue133 w) rfl; clear hS; intro g13 w hS; refine put_move ?_; go_step)) | ((with_reducible refine gt9 _ (.store 133 _ _) ?_); (refine wl9 ?_; apply wp_storeG hS 133 _ _ rfl _ rfl 2 (row_of rfl) _ _; (case hp => exact pl9); (case hy => rfl); (case hn => rfl); (case hn' => rfl); (case hv => rfl); (case hd => exact rfl); clear hS; intro w hS)) | ((fail_if_success with_reducible refine ga9 ?_); go_step))
          rw [E1.out] at hS
          have hYl : Y.length ≤ 5000 := by
           have h1 := HR2.out.syll
           rw [sgs_syl, HNL.out] at h1
           have h2 : syl (G2.map gpM) = syl ((G2.map gpM).take a) ++ syl ((G2.map gpM).drop a) := by rw [← syl_append, List.take_append_drop]
           rw [h2, List.length_append, HY.out] at h1
           omega
          repeat' (first
           | (refine y9146 ?_) | ((with_reducible refine gs9 105 ?_); (refine wvv9 (V.fieldAddr fo133_1 rfl nq9) ?_; go_step)) | ((with_reducible refine gs9 107 ?_); (refine wvv9 (V.len Tryd.underlying24 rfl) ?_; go_step)) | (refine y9117 ?_) | ((fail_if_success with_reducible refine ga9 ?_); go_step))
          replace hS := hS.sub (xs := [mp ik g93 (cntF Y), gpks a8 M c8 G2, star (L.map Sr.res), prt g2 [.ints (List.replicate 16 0), .val (.slice none 0 0)]]) sb9
          go_loopg [108] px.length (fun gk iv w => ∃ (b : Nat), gk + b = px.length ∧ iv = .int .i64 b ∧ St w0 w [mp ik g93 (cntF (Y ++ px.take b)), gpks a8 M c8 G2, star (L.map Sr.res), prt g2 [.ints (List.replicate 16 0), .val (.slice none 0 0)]])
          case atStart => exact ⟨0, by omega, rfl, by rw [List.take_zero, List.append_nil]; exact hS⟩
          case round =>
           clear hS
           obtain ⟨b, hb, rfl, hS⟩ := hrel
           by_cases hlt4 : b < px.length
           · have hrow : Sl wr 1 (.slice pa px.length pcp) px.length (px.map (Value.int .i64)) := star_row hS (show Pull (star (L.map Sr.res)) _ _ from pl9) HPR.out
             obtain ⟨_, a1, c1, e1, _, _, hor⟩ := hrow
             cases e1
             rcases hor with h0 | ⟨b0, o0, rfl, hc⟩
             · omega
             have hcw := hc b (by omega)
             rw [List.getElem?_map, get_nth px b hlt4] at hcw
             replace hcw : wr.cell? ⟨b0, o0 + b, none⟩ = some (.int .i64 (nth px b)) := hcw
             have htk2 : Y ++ px.take (b + 1) = (Y ++ px.take b) ++ [nth px b] := by
              rw [List.take_succ_eq_append_getElem hlt4, List.append_assoc]
              simp [nth, List.getD, hlt4]
             have hZl : (Y ++ px.take b).length ≤ 10000 := by rw [List.length_append, List.length_take]; omega
             obtain ⟨s, hs⟩ : ∃ s, nth px b = s := ⟨_, rfl⟩
             obtain ⟨Z, hZ⟩ : ∃ Z, Y ++ px.take b = Z := ⟨_, rfl⟩
             rw [hs] at hcw htk2
             rw [hZ] at htk2 hZl hS
             have hcl2 := List.count_le_length (a := s) (l := Z)
             obtain ⟨m, hm⟩ : ∃ m, Z.count s = m := ⟨_, rfl⟩
             have HTK2 := hid htk2
             have HSN := hid (cntF_snoc Z s)
             rw [hm] at hcl2 HSN
             have hfe : cntF Z s = if m = 0 then none else some (.int .i64 (m : Nat)) := by rw [← hm]; rfl
             clear hs hZ htk2 hc hm
             repeat' (first
              | ((with_reducible refine gs9 111 ?_); refine wl9 ?_; refine wp_load (o := ⟨some 111, _, _, _, _, _⟩) 3 _ rfl _ rfl (one_of rfl) _ hcw ?_; refine put_move ?_; go_step) | (refine y91 ?_) | ((with_reducible refine gs9 109 ?_); (refine wvv9 (V.lss rfl rfl) ?_; go_step)) | ((with_reducible refine gs9 110 ?_); (refine wvv9 (V.indexSl Tryd.underlying24 isz3 rfl rfl isn9 (by omega) (Nat.mul_one _) nq9) ?_; go_step)) | ((fail_if_success with_reducible refine ga9 ?_); go_step))
             by_cases hm0 : m = 0
             · rw [if_pos hm0] at hfe
               repeat' (first
                | (refine y99 ?_) | (refine y910 ?_) | (refine y9146 ?_) | ((with_reducible refine gs9 114 ?_); (refine wl9 ?_; apply wp_lookupN (enc := ik) hS 89 _ _ rfl _ rfl _ rfl Tryd.underlying89 (keyLaw_int Tryd.underlying3) (.int .i64 0) (fun w => Tryd.zeroValue3 w) _; (case hp => exact pl9); (case hf => with_reducible assumption); refine put_move ?_; go_step)) | ((with_reducible refine gt9 _ (.mapUpdate 89 _ _ _) ?_); (refine wl9 ?_; apply wp_mapUpdate (enc := ik) hS 89 _ _ _ rfl _ rfl _ rfl Tryd.underlying89 (keyLaw_int Tryd.underlying3) _; (case hp => exact pl9); (case hv => (first | exact IsV.int rfl | exact IsV.bool rfl | exact IsV.slice rfl | exact IsV.pointer rfl | exact IsV.string rfl | exact IsV.map rfl | exact IsV.func rfl | exact IsV.agg rfl)); (case hd => exact rfl); clear hS; intro w hS)) | ((fail_if_success with_reducible refine ga9 ?_); go_step))
               rw [HSN.out] at hS
               go_roundg (gk - 1)
               case measure => omega
               case rel => exact ⟨b + 1, by omega, by go_num, by rw [HTK2.out]; exact hS⟩
             · rw [if_neg hm0] at hfe
               repeat' (first
                | (refine y99 ?_) | (refine y910 ?_) | (refine y9146 ?_) | ((with_reducible refine gs9 114 ?_); (refine wl9 ?_; apply wp_lookupS (enc := ik) hS 89 _ _ rfl _ rfl _ rfl Tryd.underlying89 (keyLaw_int Tryd.underlying3) (.int .i64 0) (fun w => Tryd.zeroValue3 w) _; (case hp => exact pl9); (case hf => with_reducible assumption); refine put_move ?_; go_step)) | ((with_reducible refine gt9 _ (.mapUpdate 89 _ _ _) ?_); (refine wl9 ?_; apply wp_mapUpdate (enc := ik) hS 89 _ _ _ rfl _ rfl _ rfl Tryd.underlying89 (keyLaw_int Tryd.underlying3) _; (case hp => exact pl9); (case hv => (first | exact IsV.int rfl | exact IsV.bool rfl | exact IsV.slice rfl | exact IsV.pointer rfl | exact IsV.string rfl | exact IsV.map rfl | exact IsV.func rfl | exact IsV.agg rfl)); (case hd => exact rfl); clear hS; intro w hS)) | ((fail_if_success with_reducible refine ga9 ?_); go_step))
               rw [HSN.out] at hS
               go_roundg (gk - 1)
               case measure => omega
               case rel => exact ⟨b + 1, by omega, by go_num, by rw [HTK2.out]; exact hS⟩
           · obtain rfl : b = px.length := by omega
             rw [List.take_length, ← HTK.out] at hS
             repeat' (first
              | ((with_reducible refine gs9 109 ?_); (refine wvv9 (V.lss rfl rfl) ?_; go_step)) | ((fail_if_success with_reducible refine ga9 ?_); go_step))
             repeat' (first
              | ((with_reducible refine gs9 117 ?_); (refine wplV (.int _ (((a + 1 : Nat) : Int))) (V.as (V.addI rfl rfl (by omega)) (by omega)) rfl ?_; go_step)) | (refine y9146 ?_) | ((fail_if_success with_reducible refine ga9 ?_); go_step))
             go_roundg (gk2 - 1)
             case measure => omega
             case rel => exact ⟨a + 1, by omega, by go_num, hS⟩
        · obtain rfl : a = Tn := by omega
          have HFE : Hid (∀ s, cntF (syl ((G2.map gpM).take a)) s = if f s = 0 then none else some (.int .i64 (f s : Nat))) := fun s => by rw [hf]; rfl
          obtain ⟨F, hF⟩ : ∃ F, cntF (syl ((G2.map gpM).take a)) = F := ⟨_, rfl⟩
          rw [hF] at hS HFE
          have hf16 : ∀ s, f s ≤ 5000 := fun s => by
           rw [hf]
           have h1 := HR2.out.syll
           rw [sgs_syl, HNL.out] at h1
           have h2 : syl (G2.map gpM) = syl ((G2.map gpM).take a) ++ syl ((G2.map gpM).drop a) := by rw [← syl_append, List.take_append_drop]
           rw [h2, List.length_append] at h1
           have h3 := List.count_le_length (a := s) (l := syl ((G2.map gpM).take a))
           unfold lng
           omega
          have HF16 := hid hf16
          have HFF : Hid (f = lng ((G2.map gpM).take (2 * (sgs c k).length - 2))) := by unfold Hid; rw [HNL.out, hTn]; exact hf
          clear hF hf hf16
          replace hS := hS.sub (xs := [mp ik g93 F, prt g2 [.ints (List.replicate 16 0), .val (.slice none 0 0)]]) sb9
          repeat' (first
           | ((with_reducible refine gs9 102 ?_); (refine wvv9 (V.lss rfl rfl) ?_; go_step)) | ((fail_if_success with_reducible refine ga9 ?_); go_step))
          repeat' (first
           | (refine y9146 ?_) | ((with_reducible refine gs9 16 ?_); (refine wl9 ?_; apply wp_allocP (o := ⟨some 16, _, _, _, _, _⟩) hS 31 rfl _ zp31; clear hS; intro g16 w hS; refine put_move ?_; go_step)) | ((fail_if_success with_reducible refine ga9 ?_); go_step))
          replace hS := ((hS.sub (xs := [mp ik g93 F, prt g2 [.ints (List.replicate 16 0), .val (.slice none 0 0)], prt g16 [.ints (List.replicate 16 0), .val (.slice none 0 0)]]) sb9).nilk 3 1 .i64)
          go_loopg [118] 16 (fun gk iv w => ∃ (q ls : Nat) (C S : List Int) (ao : Option Addr) (co : Nat), gk + q = 16 ∧ iv = .int .i64 q ∧ ls = S.length ∧ Len C 16 ∧ (∀ i, i < 16 → nth C i = cntTo f k q 0 i) ∧ S = symsTo f k q ∧ St w0 w [own 3 1 ao ls co (S.map (Value.int .i64)), mp ik g93 F, prt g2 [.ints (List.replicate 16 0), .val (.slice none 0 0)], prt g16 [.ints C, .val (.slice ao ls co)]])
          case atStart => exact ⟨0, 0, List.replicate 16 0, [], none, 0, by omega, rfl, rfl, Len.rep, fun i hi => by rw [nth_zeros]; unfold cntTo; rw [if_neg (by omega)]; split <;> rfl, rfl, hS⟩
          case round =>
           clear hS
           obtain ⟨q, ls, C, S, ao, co, hq, rfl, hls, hC, hCn, hSe, hS⟩ := hrel
           have HCN := hid hCn
           have HSE := hid hSe
           clear hCn hSe
           by_cases hlt5 : q < 16
           · obtain ⟨gk3, hgk3⟩ : ∃ x, x = gk := ⟨_, rfl⟩
             subst hgk3
             have HLS : Hid (S.length ≤ 16 * 256) := by
              unfold Hid
              rw [HSE.out]
              have h1 := symsTo_len f k q
              have h2 : q * k ≤ 16 * 256 := Nat.mul_le_mul (by omega) (by omega)
              omega
             repeat' (first
              | (refine y91 ?_) | ((with_reducible refine gs9 119 ?_); (refine wvv9 (V.lss rfl rfl) ?_; go_step)) | ((with_reducible refine gs9 122 ?_); (refine wvv9 (V.len Tryd.underlying24 rfl) ?_; go_step)) | ((fail_if_success with_reducible refine ga9 ?_); go_step))
             go_loopg [123] k (fun gk iv w => ∃ (s ls : Nat) (C S' : List Int) (ao : Option Addr) (co : Nat), gk + s = k ∧ iv = .int .i64 s ∧ ls = S'.length ∧ Len C 16 ∧ (∀ i, i < 16 → nth C i = cntTo f k q s i) ∧ S' = S ++ symsK f s (q + 1) ∧ St w0 w [own 3 1 ao ls co (S'.map (Value.int .i64)), mp ik g93 F, prt g2 [.ints (List.replicate 16 0), .val (.slice none 0 0)], prt g16 [.ints C, .val (.slice ao ls co)]])
             case atStart => exact ⟨0, ls, C, S, ao, co, by omega, rfl, hls, hC, HCN.out, by simp [symsK], hS⟩
             case round =>
              clear hS hC HCN
              obtain ⟨s, ls, C, S', ao, co, hs, rfl, hls2, hC, hCn, hSe, hS⟩ := hrel
              have HCN := hid hCn
              have HSE2 := hid hSe
              have hS'l : ls ≤ 10000 := by
               rw [hls2, hSe, List.length_append]
               have := symsK_len f s (q + 1)
               have := HLS.out
               omega
              clear hCn hSe
              by_cases hlt6 : s < k
              · have hfe := HFE.out (s : Int)
                have hf5 := HF16.out (s : Int)
                obtain ⟨fs, hfs⟩ : ∃ fs, f (s : Int) = fs := ⟨_, rfl⟩
                rw [hfs] at hfe hf5
                have hsk := symsK_succ f s (q + 1)
                rw [hfs] at hsk
                by_cases hfq : fs = q + 1
                · rw [if_neg (by omega)] at hfe
                  rw [if_pos hfq] at hsk
                  have hnq := HCN.out q hlt5
                  have hbq : nth C q = ((symsK f s (q + 1)).length : Nat) := by
                   rw [hnq]; unfold cntTo; rw [if_neg (by omega), if_pos rfl]
                  have hbl := symsK_len f s (q + 1)
                  have HSK := hid hsk
                  have HBQ := hid hbq
                  have hbb : 0 ≤ nth C q ∧ nth C q ≤ 256 := by rw [hbq]; omega
                  clear hsk hfs hnq hbq hbl
                  repeat' (first
                   | (refine y917 ?_) | (refine y91 ?_) | (refine y914 ?_) | (refine y919 ?_) | (refine y915 ?_) | ((fail_if_success with_reducible refine ga9 ?_); go_step))
                  repeat' (first
                   | (refine y9146 ?_) | ((with_reducible refine gs9 133 ?_); (refine wvv9 (V.fieldAddr fo31_0 rfl nq9) ?_; go_step)) | ((with_reducible refine gs9 134 ?_); (refine wvv9 (V.indexAr Tryd.underlying29 isz3 rfl rfl isn9 (by omega) (Nat.mul_one _) nq9) ?_; go_step)) | ((with_reducible refine gs9 136 ?_); (refine wvv9 (V.addI rfl rfl (by omega)) ?_; go_step)) | ((with_reducible refine gs9 137 ?_); (refine wvv9 (V.fieldAddr fo31_0 rfl nq9) ?_; go_step)) | ((with_reducible refine gs9 138 ?_); (refine wvv9 (V.indexAr Tryd.underlying29 isz3 rfl rfl isn9 (by omega) (Nat.mul_one _) nq9) ?_; go_step)) | ((with_reducible refine gs9 139 ?_); (refine wvv9 (V.fieldAddr fo31_1 rfl nq9) ?_; go_step)) | ((with_reducible refine gs9 144 ?_); (refine wvv9 (V.fieldAddr fo31_1 rfl nq9) ?_; go_step)) | ((with_reducible refine gt9 _ (.load 3 _) ?_); (refine wl9 ?_; apply wp_load1P hS 3 _ rfl _ _ rfl (one_of rfl) _; (case hp => exact pl9); (case hi => (repeat (first | (apply AtI.head; (case hn => (first | (with_reducible assumption) | exact Len.rep | exact Len.set (by with_reducible assumption) | exact Len.set Len.rep | exact Len.set (Len.set Len.rep))); (case h => omega)) | (apply AtI.skipI; (case hn => (first | (with_reducible assumption) | exact Len.rep | exact Len.set (by with_reducible assumption) | exact Len.set Len.rep | exact Len.set (Len.set Len.rep))); (case h => omega); (case ho => rfl)) | apply AtI.skipV))); refine put_move ?_; go_step)) | ((with_reducible refine gt9 _ (.store 3 _ _) ?_); (refine wl9 ?_; apply wp_store1P hS 3 _ _ rfl _ _ rfl (one_of rfl) _ _; (case hp => exact pl9); (case hy => rfl); (case hi => (repeat (first | (apply PutI.head; (case hn => (first | (with_reducible assumption) | exact Len.rep | exact Len.set (by with_reducible assumption) | exact Len.set Len.rep | exact Len.set (Len.set Len.rep))); (case h => omega)) | (apply PutI.skipI; (case hn => (first | (with_reducible assumption) | exact Len.rep | exact Len.set (by with_reducible assumption) | exact Len.set Len.rep | exact Len.set (Len.set Len.rep))); (case h => omega); (case ho => rfl)) | apply PutI.skipV))); (case hd => exact rfl); clear hS; intro w hS)) | (refine y9118 ?_) | ((with_reducible refine gs9 142 ?_); (refine wl9 ?_; apply wp_buildSlice1 (o := ⟨some 142, _, _, _, _, _⟩) hS 24 1 _ rfl 3 1 8 el24 _ _; (case hvs => (repeat (first | exact Parts.nil | (apply Parts.agg; (rfl); (rfl)) | (apply Parts.one; exact isv9; (rfl); (rfl))))); (case hn => rfl); (case hn0 => decide); (case hns => decide); clear hS; intro g142 w hS; refine put_move ?_; go_step)) | ((with_reducible refine gs9 143 ?_); (refine wl9 ?_; apply wp_append (o := ⟨some 143, _, _, _, _, _⟩) hS _ _ 24 rfl 3 1 8 el24 _ _ _ _ rfl; (case hp => exact pl9); (case hx => exact rfl); (case hm => (first | exact hS.slBlk pl9 (by rfl) (by decide) | exact hS.sl pl9 | with_reducible assumption | exact Sl.ext (by with_reducible assumption) hS.1 | exact Sl.nil _ _ | exact Sl.ext (by assumption) hS.1 | assumption)); (case h1 => (first | exact oneAll rfl | exact oneMap _ _ | (intro u hu; cases hu))); (case h63 => unfold maxLen; omega); (case hb => omega); clear hS; intro ad143 c143 w hS; (first | simp only [mapk1] at hS | simp only [mapk2] at hS | simp only [mapk3] at hS | simp only [mapk4] at hS | simp only [mapkl] at hS | skip); refine put_move ?_; go_step)) | ((with_reducible refine gt9 _ (.store 24 _ _) ?_); (refine wl9 ?_; apply wp_storeVP hS 24 _ _ rfl _ _ rfl (one_of rfl) _ _; (case hp => exact pl9); (case hy => exact isv9); (case hz => rfl); (case hi => (repeat (first | exact PutV.head | (apply PutV.skipI; (case hn => (first | (with_reducible assumption) | exact Len.rep | exact Len.set (by with_reducible assumption) | exact Len.set Len.rep | exact Len.set (Len.set Len.rep))); (case h => omega); (case ho => rfl)) | apply PutV.skipV))); (case hd => exact rfl); clear hS; intro w hS)) | ((fail_if_success with_reducible refine ga9 ?_); go_step))
                  repeat' (first
                   | (refine y925 ?_) | (refine y9146 ?_) | ((fail_if_success with_reducible refine ga9 ?_); go_step))
                  go_roundg (gk - 1)
                  case measure => omega
                  case rel =>
                   refine ⟨s + 1, ls + 1, C.set q (nth C q + 1), S' ++ [(s : Int)], ad143, c143, by omega, by go_num, by rw [List.length_append, ← hls2]; rfl, hC.set, fun i hi => ?_, by rw [HSE2.out, HSK.out, List.append_assoc], hS.sub sb9⟩
                   rw [nth_set _ _ _ _ (by rw [hC.out]; exact hlt5)]
                   unfold cntTo
                   by_cases hiq : q = i
                   · subst hiq
                     rw [if_pos rfl, if_neg (by omega), if_pos rfl, HSK.out, HBQ.out, List.length_append]; rfl
                   · rw [if_neg hiq, HCN.out i hi]
                     unfold cntTo
                     by_cases hi2 : i < q
                     · rw [if_pos hi2, if_pos hi2]
                     · rw [if_neg hi2, if_neg hi2, if_neg (by omega), if_neg (by omega)]
                · rw [if_neg hfq] at hsk
                  have HSK := hid hsk
                  have HN2 : Hid (∀ i, i < 16 → nth C i = cntTo f k q (s + 1) i) := fun i hi => by
                   rw [HCN.out i hi]
                   unfold cntTo
                   by_cases hi2 : i < q
                   · rw [if_pos hi2, if_pos hi2]
                   · by_cases hi3 : i = q
                     · subst hi3; rw [if_neg hi2, if_neg hi2, if_pos rfl, if_pos rfl, hsk]
                     · rw [if_neg hi2, if_neg hi2, if_neg hi3, if_neg hi3]
                  clear hsk hfs
                  by_cases hf0 : fs = 0
                  · rw [if_pos hf0] at hfe
                    repeat' (first
                     | (refine y917 ?_) | (refine y91 ?_) | (refine y914 ?_) | (refine y919 ?_) | ((with_reducible refine gs9 128 ?_); (refine wl9 ?_; apply wp_lookupN (enc := ik) hS 89 _ _ rfl _ rfl _ rfl Tryd.underlying89 (keyLaw_int Tryd.underlying3) (.int .i64 0) (fun w => Tryd.zeroValue3 w) _; (case hp => exact pl9); (case hf => with_reducible assumption); refine put_move ?_; go_step)) | ((fail_if_success with_reducible refine ga9 ?_); go_step))
                    repeat' (first
                     | (refine y925 ?_) | (refine y9146 ?_) | ((fail_if_success with_reducible refine ga9 ?_); go_step))
                    go_roundg (gk - 1)
                    case measure => omega
                    case rel => exact ⟨s + 1, ls, C, S', ao, co, by omega, by go_num, hls2, hC, HN2.out, by rw [HSE2.out, HSK.out], hS.sub sb9⟩
                  · rw [if_neg hf0] at hfe
                    repeat' (first
                     | (refine y917 ?_) | (refine y91 ?_) | (refine y914 ?_) | (refine y919 ?_) | (refine y915 ?_) | ((fail_if_success with_reducible refine ga9 ?_); go_step))
                    repeat' (first
                     | (refine y925 ?_) | (refine y9146 ?_) | ((fail_if_success with_reducible refine ga9 ?_); go_step))
                    go_roundg (gk - 1)
                    case measure => omega
                    case rel => exact ⟨s + 1, ls, C, S', ao, co, by omega, by go_num, hls2, hC, HN2.out, by rw [HSE2.out, HSK.out], hS.sub sb9⟩
              · obtain rfl : s = k := by omega
                repeat' (first
                 | (refine y914 ?_) | ((fail_if_success with_reducible refine ga9 ?_); go_step))
                repeat' (first
                 | ((with_reducible refine gs9 146 ?_); (refine wplV (.int _ (((q + 1 : Nat) : Int))) (V.as (V.addI rfl rfl (by omega)) (by omega)) rfl ?_; go_step)) | (refine y9146 ?_) | ((fail_if_success with_reducible refine ga9 ?_); go_step))
                go_roundg (gk3 - 1)
                case measure => omega
                case rel =>
                 refine ⟨q + 1, ls, C, S', ao, co, by omega, by go_num, hls2, hC, fun i hi => ?_, by rw [HSE2.out, HSE.out, symsTo_succ], hS⟩
                 rw [HCN.out i hi]
                 unfold cntTo
                 by_cases hi2 : i < q
                 · rw [if_pos hi2, if_pos (by omega)]
                 · by_cases hi3 : i = q
                   · subst hi3; rw [if_neg hi2, if_pos rfl, if_pos (by omega)]
                   · rw [if_neg hi2, if_neg hi3, if_neg (by omega)]
                     split <;> rfl
           · obtain rfl : q = 16 := by omega
             have hCf : ∀ i, i < 16 → nth C i = ((symsK f k (i + 1)).length : Nat) := fun i hi => by
              rw [HCN.out i hi]; unfold cntTo; rw [if_pos hi]
             have HCF := hid hCf
             clear hCf HCN
             repeat' (first
              | ((with_reducible refine gs9 119 ?_); (refine wvv9 (V.lss rfl rfl) ?_; go_step)) | ((fail_if_success with_reducible refine ga9 ?_); go_step))
             repeat' (first
              | (refine y92 ?_) | (refine y9126 ?_) | ((with_reducible refine gt9 _ (.store 31 _ _) ?_); (refine wl9 ?_; apply wp_storePP hS 31 _ _ rfl _ rfl 17 (row_of rfl) _ _; (case hp => exact pl9); (case hy => rfl); (case hn => (repeat (first | exact Pre.nil | (apply Pre.ints; (case hn => (first | (with_reducible assumption) | exact Len.rep | exact Len.set (by with_reducible assumption) | exact Len.set Len.rep | exact Len.set (Len.set Len.rep))); (case h => omega); (case hm => rfl)) | apply Pre.val))); (case hn' => (repeat (first | exact Pre.nil | (apply Pre.ints; (case hn => (first | (with_reducible assumption) | exact Len.rep | exact Len.set (by with_reducible assumption) | exact Len.set Len.rep | exact Len.set (Len.set Len.rep))); (case h => omega); (case hm => rfl)) | apply Pre.val))); (case hv => rfl); (case hd => exact rfl); clear hS; intro w hS)) | ((fail_if_success with_reducible refine ga9 ?_); go_step))
             refine ret_all (xs := [_, _]) rfl (.cons (OneRes.prt hS rfl (row_of (n := 17) rfl) pl9 (by (repeat (first | exact Pre.nil | (apply Pre.ints; (case hn => (first | (with_reducible assumption) | exact Len.rep | exact Len.set (by with_reducible assumption) | exact Len.set Len.rep | exact Len.set (Len.set Len.rep))); (case h => omega); (case hm => rfl)) | apply Pre.val)))) (.cons (OneRes.tmp rfl) (.nil))) (by simp) rfl ?_
             exact ⟨f, G2.map gpM, C, S, ao, co, HR2.out, HFF.out, hC, HCF.out, HSE.out, by rw [← hls]; rfl, by rw [← hls]; exact hS.sub sb9⟩

end Go.Proofs.YtehbjhocgnfpmaaDoor
/- What best.Make's table is: valid, with words of the lengths that packages gave; and what any table costs. -/
namespace Go.Proofs.YtehbjhocgnfpmaaDoor
set_option linter.unusedVariables false
def posL (c : List Int) (n : Nat) : List Int := ((List.range n).filter fun s => decide (0 < nth c s)).map fun (s : Nat) => (s : Int)
def wOf (c : List Int) (s : Int) : Int := if s = -1 then 0 else nth c s.toNat
theorem posL_mem (c : List Int) (n : Nat) (s : Int) : s ∈ posL c n ↔ 0 ≤ s ∧ s < n ∧ 0 < nth c s.toNat := by
 unfold posL
 simp only [List.mem_map, List.mem_filter, List.mem_range, decide_eq_true_eq]
 constructor
 · rintro ⟨a, ⟨h1, h2⟩, rfl⟩; exact ⟨by omega, by omega, by simpa using h2⟩
 · intro ⟨h1, h2, h3⟩; exact ⟨s.toNat, ⟨by omega, h3⟩, by omega⟩
theorem posL_nodup (c : List Int) (n : Nat) : (posL c n).Nodup := by
 unfold posL
 rw [List.nodup_iff_pairwise_ne, List.pairwise_map]
 refine List.Pairwise.imp ?_ (List.Pairwise.filter _ List.nodup_range)
 intro a b h e
 exact h (by omega)
theorem sgs_sing (c : List Int) (n : Nat) : Sing (sgs c n) (-1 :: posL c n) := by
 refine ⟨?_, List.nodup_cons.2 ⟨fun h => by have := (posL_mem c n _).1 h; omega, posL_nodup c n⟩⟩
 unfold sgs posL
 simp [List.map_map, Function.comp_def]
theorem sgs_w (c : List Int) (n : Nat) : ∀ x ∈ sgs c n, x.1 = isum (wOf c) x.2 := by
 intro x hx
 rcases List.mem_cons.1 hx with rfl | hx
 · simp [isum, wOf]
 · obtain ⟨s, _, rfl⟩ := List.mem_map.1 hx
   simp only [isum, List.map_cons, List.map_nil, List.sum_cons, List.sum_nil, wOf]
   rw [if_neg (by omega)]; simp
theorem nx_sum (c : Nat → Nat) : ∀ k, k ≤ 16 → nx c k * 2 ^ (16 - k) = sm (fun i => c i * 2 ^ (15 - i)) k
 | 0, _ => by simp [nx, sm]
 | k + 1, h => by
  have ih := nx_sum c k (by omega)
  rw [sm, ← ih, nx, Nat.add_mul, show 16 - k = (16 - (k + 1)) + 1 by omega, show 16 - (k + 1) = 15 - k by omega, Nat.pow_succ]
  rw [Nat.mul_comm 2 (nx c k), Nat.mul_assoc, Nat.mul_comm 2 (2 ^ (15 - k))]
theorem sm_addf (a b : Nat → Nat) : ∀ k, sm (fun i => a i + b i) k = sm a k + sm b k
 | 0 => rfl
 | k + 1 => by simp only [sm]; rw [sm_addf a b k]; omega
theorem sm_congrf {a b : Nat → Nat} : ∀ k, (∀ i, i < k → a i = b i) → sm a k = sm b k
 | 0, _ => rfl
 | k + 1, h => by simp only [sm]; rw [sm_congrf k fun i hi => h i (by omega), h k (by omega)]
def bit16 (l : Nat) : Nat := if 1 ≤ l then 2 ^ (16 - l) else 0
theorem one_row (l : Nat) (h : l ≤ 16) : sm (fun i => (if l = i + 1 then 1 else 0) * 2 ^ (15 - i)) 16 = bit16 l := by
 have : ∀ l, l < 17 → sm (fun i => (if l = i + 1 then 1 else 0) * 2 ^ (15 - i)) 16 = bit16 l := by decide
 exact this l (by omega)
theorem rows_sum (f : Int → Nat) (hf : ∀ s, f s ≤ 16) : ∀ n, sm (fun i => (symsK f n (i + 1)).length * 2 ^ (15 - i)) 16 = nsum (fun s : Nat => bit16 (f (s : Int))) (List.range n)
 | 0 => by simp [symsK, nsum]; decide
 | n + 1 => by
  rw [List.range_succ, nsum_append, ← rows_sum f hf n]
  have : nsum (fun s : Nat => bit16 (f (s : Int))) [n] = bit16 (f (n : Int)) := by simp [nsum]
  rw [this, ← one_row _ (hf _), ← sm_addf]
  refine sm_congrf 16 fun i hi => ?_
  rw [symsK_succ, ← Nat.add_mul]
  by_cases h : f (n : Int) = i + 1
  · rw [if_pos h, if_pos h, List.length_append]; rfl
  · rw [if_neg h, if_neg h]; rfl
theorem nsum_map {α β : Type} (g : α → β) (f : β → Nat) (l : List α) : nsum f (l.map g) = nsum (fun x => f (g x)) l := by
 unfold nsum; rw [List.map_map]; rfl
theorem isum_map {α β : Type} (g : α → β) (f : β → Int) (l : List α) : isum f (l.map g) = isum (fun x => f (g x)) l := by
 unfold isum; rw [List.map_map]; rfl
theorem nsum_filter {α : Type} (p : α → Bool) (f : α → Nat) (l : List α) (h : ∀ x ∈ l, p x = false → f x = 0) : nsum f (l.filter p) = nsum f l := by
 induction l with
 | nil => rfl
 | cons x l ih =>
  have ih := ih fun y hy => h y (by simp [hy])
  rw [List.filter_cons]
  by_cases hp : p x = true
  · rw [if_pos hp, nsum_cons, nsum_cons, ih]
  · rw [if_neg hp, nsum_cons, ih, h x (by simp) (by simpa using hp), Nat.zero_add]
theorem isum_filter {α : Type} (p : α → Bool) (f : α → Int) (l : List α) (h : ∀ x ∈ l, p x = false → f x = 0) : isum f (l.filter p) = isum f l := by
 induction l with
 | nil => rfl
 | cons x l ih =>
  have ih := ih fun y hy => h y (by simp [hy])
  rw [List.filter_cons]
  by_cases hp : p x = true
  · rw [if_pos hp, isum_cons, isum_cons, ih]
  · rw [if_neg hp, isum_cons, ih, h x (by simp) (by simpa using hp), Int.zero_add]
def costL (c : List Int) (n : Nat) (l : Int → Nat) : Int := isum (fun s : Nat => nth c s * (l (s : Int) : Nat)) (List.range n)
structure LenOk (c : List Int) (n : Nat) (l : Int → Nat) : Prop where
 top : ∀ s ∈ posL c n, 1 ≤ l s ∧ l s ≤ 16
 kraft : nsum (fun s => 2 ^ (16 - l s)) (posL c n) < 2 ^ 16
theorem costL_pos (c : List Int) (n : Nat) (l : Int → Nat) (h0 : ∀ i, i < n → 0 ≤ nth c i) : isum (fun s => wOf c s * (l s : Nat)) (posL c n) = costL c n l := by
 unfold posL costL
 rw [isum_map, isum_congr _ (fun s : Nat => nth c s * (l (s : Int) : Nat)) _ fun s _ => ?_]
 · refine isum_filter _ _ _ fun x hx hp => ?_
   have := h0 x (List.mem_range.1 hx)
   have h1 : ¬ 0 < nth c x := by simpa using hp
   rw [show nth c x = 0 by omega, Int.zero_mul]
 · unfold wOf; rw [if_neg (by omega)]; simp
theorem made_law {c : List Int} {n : Nat} {R : List Pk} (hn : n ≤ 256) (h0 : ∀ i, i < n → 0 ≤ nth c i) (hR : RowK (sgs c n) 16 R) (f : Int → Nat) (hf : f = lng (R.take (2 * (sgs c n).length - 2))) :
 (∀ s, f s ≤ 16) ∧ (∀ s, s ∉ posL c n → 0 ≤ s → f s = 0) ∧ LenOk c n f ∧ (∀ l, LenOk c n l → costL c n f ≤ costL c n l) ∧ (∀ a b, a ∈ posL c n → b ∈ posL c n → nth c b.toNat < nth c a.toNat → f a ≤ f b) := by
 have hS := sgs_sing c n
 have hlen := hS.len
 have hpl : (posL c n).length ≤ n := by
  unfold posL
  have := List.length_filter_le (fun s => decide (0 < nth c s)) (List.range n)
  simp at this ⊢; exact this
 have hw0 : ∀ s ∈ (-1 :: posL c n), 0 ≤ wOf c s := fun s hs => by
  rcases List.mem_cons.1 hs with rfl | hs
  · simp [wOf]
  · have := (posL_mem c n s).1 hs
    unfold wOf; rw [if_neg (by omega)]; omega
 obtain ⟨_, b1, b2, b3, b4, b5⟩ := best_spec hS (wOf c) (sgs_w c n) hw0 (by simp) (by simp; omega) hR
 rw [← hlen, ← hf] at b1 b2 b3 b4 b5
 have hpos : ∀ s ∈ posL c n, 1 ≤ f s := fun s hs => kraft_pos b3 (List.mem_cons_of_mem _ hs) (List.mem_cons_self (a := -1)) (by have := (posL_mem c n s).1 hs; omega)
 rw [nsum_cons] at b3
 have hone : 1 ≤ 2 ^ (16 - f (-1)) := Nat.one_le_two_pow
 refine ⟨b1, fun s hs hs0 => b2 s (by simp only [List.mem_cons, not_or]; exact ⟨by omega, hs⟩), ⟨fun s hs => ⟨hpos s hs, b1 s⟩, by omega⟩, fun l hl => ?_, fun a b ha hb hab => ?_⟩
 · have hb4 := b4 (fun s => if s = -1 then 16 else l s) (fun s hs => by
    show (if s = -1 then 16 else l s) ≤ 16
    rcases List.mem_cons.1 hs with rfl | hs
    · simp
    · have := (posL_mem c n s).1 hs
      rw [if_neg (by omega)]; exact (hl.top s hs).2) (by
    rw [nsum_cons]
    have := hl.kraft
    have e : nsum (fun s => 2 ^ (16 - (if s = -1 then 16 else l s))) (posL c n) = nsum (fun s => 2 ^ (16 - l s)) (posL c n) := nsum_congr _ _ _ fun s hs => by
     have := (posL_mem c n s).1 hs
     rw [if_neg (by omega)]
    rw [e]; simp; simp at this; omega)
   rw [isum_cons, isum_cons] at hb4
   have z : ∀ x : Int, wOf c (-1) * x = 0 := fun x => by simp [wOf]
   rw [z, z, costL_pos c n f h0] at hb4
   have e : isum (fun s => wOf c s * ((if s = -1 then 16 else l s : Nat) : Int)) (posL c n) = isum (fun s => wOf c s * (l s : Nat)) (posL c n) := isum_congr _ _ _ fun s hs => by
    have := (posL_mem c n s).1 hs
    rw [if_neg (by omega)]
   rw [e, costL_pos c n l h0] at hb4
   omega
 · have h1 := (posL_mem c n a).1 ha
   have h2 := (posL_mem c n b).1 hb
   exact b5 a b (List.mem_cons_of_mem _ hb) (by unfold wOf; rw [if_neg (by omega), if_neg (by omega)]; exact hab)

theorem nx_congr {a b : Nat → Nat} : ∀ k, (∀ i, i < k → a i = b i) → nx a k = nx b k
 | 0, _ => rfl
 | k + 1, h => by rw [nx, nx, nx_congr k fun i hi => h i (by omega), h k (by omega)]
theorem cds_congr {a b : Nat → Nat} : ∀ k, (∀ i, i < k → a i = b i) → cds a k = cds b k
 | 0, _ => rfl
 | k + 1, h => by rw [cds, cds, cds_congr k fun i hi => h i (by omega), h k (by omega), nx_congr k fun i hi => h i (by omega)]
theorem one_row1 (l : Nat) (h : l ≤ 16) : sm (fun i => if l = i + 1 then 1 else 0) 16 = if 1 ≤ l then 1 else 0 := by
 have : ∀ l, l < 17 → sm (fun i => if l = i + 1 then 1 else 0) 16 = if 1 ≤ l then 1 else 0 := by decide
 exact this l (by omega)
theorem rows_len (f : Int → Nat) (hf : ∀ s, f s ≤ 16) : ∀ n, sm (fun i => (symsK f n (i + 1)).length) 16 = nsum (fun s : Nat => if 1 ≤ f (s : Int) then 1 else 0) (List.range n)
 | 0 => by simp [symsK, nsum]; decide
 | n + 1 => by
  rw [List.range_succ, nsum_append, ← rows_len f hf n]
  have : nsum (fun s : Nat => if 1 ≤ f (s : Int) then 1 else 0) [n] = if 1 ≤ f (n : Int) then 1 else 0 := by simp [nsum]
  rw [this, ← one_row1 _ (hf _), ← sm_addf]
  refine sm_congrf 16 fun i hi => ?_
  rw [symsK_succ]
  by_cases h : f (n : Int) = i + 1
  · rw [if_pos h, if_pos h, List.length_append]; rfl
  · rw [if_neg h, if_neg h]; rfl
theorem symsTo_sm (f : Int → Nat) (n : Nat) : ∀ k, (symsTo f n k).length = sm (fun i => (symsK f n (i + 1)).length) k
 | 0 => rfl
 | k + 1 => by rw [symsTo_succ, List.length_append, symsTo_sm f n k, sm]
theorem symsK_mem (f : Int → Nat) (n k : Nat) (s : Int) : s ∈ symsK f n k ↔ 0 ≤ s ∧ s < n ∧ f s = k := by
 unfold symsK
 simp only [List.mem_map, List.mem_filter, List.mem_range, decide_eq_true_eq]
 constructor
 · rintro ⟨a, ⟨h1, h2⟩, rfl⟩; exact ⟨by omega, by omega, h2⟩
 · intro ⟨h1, h2, h3⟩; exact ⟨s.toNat, ⟨by omega, by rw [Int.toNat_of_nonneg h1]; exact h3⟩, by omega⟩
theorem symsK_nodup (f : Int → Nat) (n k : Nat) : (symsK f n k).Nodup := by
 unfold symsK
 rw [List.nodup_iff_pairwise_ne, List.pairwise_map]
 refine List.Pairwise.imp ?_ (List.Pairwise.filter _ List.nodup_range)
 intro a b h e
 exact h (by omega)
theorem symsTo_mem (f : Int → Nat) (n : Nat) (s : Int) : ∀ k, s ∈ symsTo f n k ↔ 0 ≤ s ∧ s < n ∧ 1 ≤ f s ∧ f s ≤ k
 | 0 => by simp [symsTo]; intro _ _ _; omega
 | k + 1 => by
  rw [symsTo_succ, List.mem_append, symsTo_mem f n s k, symsK_mem]
  constructor
  · rintro (h | h) <;> omega
  · intro h
    by_cases e : f s = k + 1
    · right; omega
    · left; omega
theorem symsTo_nodup (f : Int → Nat) (n : Nat) : ∀ k, (symsTo f n k).Nodup
 | 0 => by simp [symsTo]
 | k + 1 => by
  rw [symsTo_succ, List.nodup_append]
  refine ⟨symsTo_nodup f n k, symsK_nodup f n (k + 1), fun a ha b hb e => ?_⟩
  subst e
  have h1 := (symsTo_mem f n a k).1 ha
  have h2 := (symsK_mem f n (k + 1) a).1 hb
  omega
theorem zip_words (f : Int → Nat) (n : Nat) : ∀ k, ∀ x ∈ (symsTo f n k).zip (cds (fun i => (symsK f n (i + 1)).length) k), x.2.1 = f x.1
 | 0, x, h => by simp [symsTo] at h
 | k + 1, x, h => by
  rw [symsTo_succ, cds, List.zip_append (by rw [symsTo_sm, cds_len])] at h
  rcases List.mem_append.1 h with h | h
  · exact zip_words f n k x h
  · have h1 := (List.of_mem_zip (a := x.1) (b := x.2) h)
    obtain ⟨j, _, e⟩ := List.mem_map.1 h1.2
    have h2 := (symsK_mem f n (k + 1) x.1).1 h1.1
    rw [h2.2.2, ← e]
def lw (L : List (Int × Nat × Nat)) (s : Int) : Nat := match symW L s with
 | some x => x.1
 | none => 0
theorem wds_fst {C S : List Int} (h : sm (cc C) 16 = S.length) : (wds C S).map (·.1) = S := by
 unfold wds
 exact List.map_fst_zip (by rw [cds_len, h]; exact Nat.le_refl _)
theorem wds_snd {C S : List Int} (h : sm (cc C) 16 = S.length) : (wds C S).map (·.2) = cds (cc C) 16 := by
 unfold wds
 exact List.map_snd_zip (by rw [cds_len, h]; exact Nat.le_refl _)
theorem lw_mem {C S : List Int} (h : tabE C S = 0) {x : Int × Nat × Nat} (hx : x ∈ wds C S) : symW (wds C S) x.1 = some x.2 ∧ lw (wds C S) x.1 = x.2.1 := by
 have := (wds_good h).symW hx
 exact ⟨this, by unfold lw; rw [this]⟩
theorem lw_in {C S : List Int} (h : tabE C S = 0) {s : Int} (hs : s ∈ S) : ∃ x ∈ wds C S, x.1 = s := by
 have h2 := (tabE_ok h).2.1
 rw [← wds_fst h2] at hs
 obtain ⟨x, hx, e⟩ := List.mem_map.1 hs
 exact ⟨x, hx, e⟩
theorem lw_pos {C S : List Int} (h : tabE C S = 0) (s : Int) : (s ∈ S → 1 ≤ lw (wds C S) s ∧ lw (wds C S) s ≤ 16) ∧ (s ∉ S → lw (wds C S) s = 0) := by
 constructor
 · intro hs
   obtain ⟨x, hx, rfl⟩ := lw_in h hs
   rw [(lw_mem h hx).2]
   have := (wds_good h).long x hx
   omega
 · intro hs
   unfold lw
   cases e : symW (wds C S) s with
   | none => rfl
   | some y => exact absurd (wds_mem C S _ (symW_mem e)).1 hs
theorem made_table {c C S : List Int} {n : Nat} {f : Int → Nat} (hn : n ≤ 256) (h16 : ∀ s, f s ≤ 16) (hz : ∀ s, s ∉ posL c n → 0 ≤ s → f s = 0) (hl : LenOk c n f) (hC : ∀ i, i < 16 → nth C i = ((symsK f n (i + 1)).length : Nat)) (hS : S = symsTo f n 16) :
 tabE C S = 0 ∧ (∀ s : Int, 0 ≤ s → s < n → lw (wds C S) s = f s) ∧ S.length = (posL c n).length ∧ (∀ s, s ∈ S ↔ s ∈ posL c n) := by
 have hcc : ∀ i, i < 16 → cc C i = (symsK f n (i + 1)).length := fun i hi => by unfold cc; rw [hC i hi]; simp
 have hmem : ∀ s, s ∈ S ↔ s ∈ posL c n := fun s => by
  rw [hS, symsTo_mem]
  constructor
  · intro h
    by_cases hp : s ∈ posL c n
    · exact hp
    · have := hz s hp h.1; omega
  · intro h
    have h1 := (posL_mem c n s).1 h
    have h2 := hl.top s h
    exact ⟨h1.1, h1.2.1, h2.1, h2.2⟩
 have hsm : sm (cc C) 16 = S.length := by rw [hS, symsTo_sm, sm_congrf 16 hcc]
 have hlen : S.length = (posL c n).length := by
  rw [hS, symsTo_sm, rows_len f h16]
  unfold posL
  rw [List.length_map, ← nsum_one]
  refine nsum_congr _ _ _ fun s hs => ?_
  by_cases hp : (s : Int) ∈ posL c n
  · have h1 := (posL_mem c n s).1 hp
    rw [if_pos (hl.top _ hp).1, if_pos (by simpa using h1.2.2)]
  · have h1 : ¬ 0 < nth c s := fun h => hp ((posL_mem c n s).2 ⟨by omega, by simp at hs; omega, by simpa using h⟩)
    rw [if_neg (by rw [hz _ hp (by omega)]; omega), if_neg (by simpa using h1)]
 have hpl : (posL c n).length ≤ n := by
  unfold posL
  have := List.length_filter_le (fun s => decide (0 < nth c s)) (List.range n)
  simp at this ⊢; exact this
 have hnx : nx (cc C) 16 < 65536 := by
  have h1 := nx_sum (fun i => (symsK f n (i + 1)).length) 16 (by omega)
  rw [rows_sum f h16] at h1
  rw [nx_congr 16 hcc]
  have h2 : nsum (fun s : Nat => bit16 (f (s : Int))) (List.range n) = nsum (fun s => 2 ^ (16 - f s)) (posL c n) := by
   unfold posL
   rw [nsum_map, ← nsum_filter (fun s => decide (0 < nth c s)) (fun s : Nat => bit16 (f (s : Int))) (List.range n) fun s hs hp => ?_]
   · refine nsum_congr _ _ _ fun s hs => ?_
     have h3 := List.mem_filter.1 hs
     have hp : (s : Int) ∈ posL c n := (posL_mem c n s).2 ⟨by omega, by have := h3.1; simp at this; omega, by simpa using h3.2⟩
     unfold bit16; rw [if_pos (hl.top _ hp).1]
   · have hp2 : (s : Int) ∉ posL c n := fun h => by have := ((posL_mem c n s).1 h).2.2; simp at this hp; omega
     unfold bit16; rw [hz _ hp2 (by omega)]; rfl
  rw [h2] at h1
  have := hl.kraft
  simp at h1 this
  omega
 have htab : tabE C S = 0 := by
  refine tabE_of ((totOk_iff C).2 ⟨fun k hk => ?_, by omega⟩) hsm (fun s hs => ?_) (by rw [hS]; exact symsTo_nodup f n 16) ((roomy_iff _).2 hnx)
  · have := symsK_len f n (k + 1)
    rw [hC k hk]; omega
  · have := (posL_mem c n s).1 ((hmem s).1 hs); omega
 refine ⟨htab, fun s h0 h1 => ?_, hlen, hmem⟩
 by_cases hs : s ∈ S
 · obtain ⟨x, hx, rfl⟩ := lw_in htab hs
   rw [(lw_mem htab hx).2]
   refine zip_words f n 16 x ?_
   unfold wds at hx
   rw [hS, cds_congr 16 hcc] at hx
   exact hx
 · rw [(lw_pos htab s).2 hs, hz s (fun h => hs ((hmem s).2 h)) h0]
theorem nsum_sub {α : Type} [DecidableEq α] (f : α → Nat) : ∀ (A B : List α), A.Nodup → (∀ a ∈ A, a ∈ B) → nsum f A ≤ nsum f B
 | [], B, _, _ => by simp [nsum]
 | a :: A, B, hn, h => by
  obtain ⟨h1, h2⟩ := List.nodup_cons.1 hn
  have p := List.perm_cons_erase (h a (by simp))
  rw [nsum_perm f p, nsum_cons, nsum_cons]
  have := nsum_sub f A (B.erase a) h2 fun x hx => (List.mem_erase_of_ne (fun e => h1 (by rw [← e]; exact hx))).2 (h x (by simp [hx]))
  omega
theorem cds_sum (c : Nat → Nat) : ∀ k, k ≤ 16 → nsum (fun x => 2 ^ (16 - x.1)) (cds c k) = nx c k * 2 ^ (16 - k)
 | 0, _ => by simp [cds, nsum, nx]
 | k + 1, h => by
  rw [nx_sum c (k + 1) h, sm, ← nx_sum c k (by omega), ← cds_sum c k (by omega), cds, nsum_append, nsum_map]
  refine congrArg (_ + ·) ?_
  have : ∀ m, nsum (fun _ : Nat => 2 ^ (16 - (k + 1))) (List.range m) = m * 2 ^ (15 - k) := fun m => by
   have := nsum_mul (fun _ : Nat => 1) (2 ^ (15 - k)) (List.range m)
   simp only [Nat.one_mul] at this
   rw [show 16 - (k + 1) = 15 - k by omega, this, nsum_const, List.length_range]
  exact this (c k)
theorem table_len {C S : List Int} (h : tabE C S = 0) (c : List Int) (n : Nat) (hall : ∀ s ∈ posL c n, s ∈ S) : LenOk c n (lw (wds C S)) := by
 obtain ⟨h1, h2, h3, h4, h5, h6⟩ := tabE_ok h
 refine ⟨fun s hs => (lw_pos h s).1 (hall s hs), ?_⟩
 have a1 := nsum_sub (fun s => 2 ^ (16 - lw (wds C S) s)) (posL c n) S (posL_nodup c n) hall
 have a2 : nsum (fun s => 2 ^ (16 - lw (wds C S) s)) S = nsum (fun x => 2 ^ (16 - x.2.1)) (wds C S) := by
  have e1 := nsum_map (fun x : Int × Nat × Nat => x.1) (fun s => 2 ^ (16 - lw (wds C S) s)) (wds C S)
  rw [wds_fst h2] at e1
  rw [e1]
  exact nsum_congr _ _ _ fun x hx => by rw [(lw_mem h hx).2]
 have a3 : nsum (fun x : Int × Nat × Nat => 2 ^ (16 - x.2.1)) (wds C S) = nsum (fun x => 2 ^ (16 - x.1)) (cds (cc C) 16) := by
  rw [← wds_snd h2, nsum_map]
 have a4 := cds_sum (cc C) 16 (Nat.le_refl _)
 have a5 := (roomy_iff _).1 h6
 simp at a4
 have : (2 : Nat) ^ 16 = 65536 := by decide
 omega

end Go.Proofs.YtehbjhocgnfpmaaDoor
/- The walk of best.Cost. -/
namespace Go.Proofs.YtehbjhocgnfpmaaDoor
set_option maxRecDepth 100000
open Go.RowKit
set_option linter.unusedVariables false

set_option maxRecDepth 100000
open Go.RowKit
set_option linter.unusedVariables false
structure Mk (c : List Int) (n : Nat) (C S : List Int) : Prop where
 len : Len C 16
 ok : tabE C S = 0
 mem : ∀ s, s ∈ S ↔ s ∈ posL c n
 slen : S.length = (posL c n).length
 best : ∀ l, LenOk c n l → costL c n (lw (wds C S)) ≤ costL c n l
 order : ∀ a b, a ∈ posL c n → b ∈ posL c n → nth c b.toNat < nth c a.toNat → lw (wds C S) a ≤ lw (wds C S) b
 lens : LenOk c n (lw (wds C S))
theorem costL_congr (c : List Int) (n : Nat) (f g : Int → Nat) (h : ∀ s : Int, 0 ≤ s → s < n → f s = g s) : costL c n f = costL c n g := by
 unfold costL
 refine isum_congr _ _ _ fun s hs => ?_
 rw [h s (by omega) (by have := List.mem_range.1 hs; omega)]
theorem bE_ok {c : List Int} (h : bE c = 0) : c.length ≤ 256 ∧ ∀ i, i < c.length → 0 ≤ nth c i ∧ nth c i ≤ 9999 := by
 unfold bE at h
 by_cases h1 : 256 < c.length
 · rw [if_pos h1] at h; cases h
 · rw [if_neg h1] at h
   by_cases h2 : allIn c 0 9999 = true
   · exact ⟨by omega, (allIn_iff c 0 9999).1 h2⟩
   · rw [if_neg h2] at h; cases h
theorem bE_of {c : List Int} (h1 : c.length ≤ 256) (h2 : ∀ i, i < c.length → 0 ≤ nth c i ∧ nth c i ≤ 9999) : bE c = 0 := by
 unfold bE; rw [if_neg (by omega), if_pos ((allIn_iff c 0 9999).2 h2)]
theorem make_good (w0 : World) (c : List Int) (ad : Option Addr) (n cap : Nat) (hv : Sl w0 1 (.slice ad n cap) n (c.map (Value.int .i64))) (hn : n ≤ 9223372036854775807) (hok : bE c = 0) :
 Calls Tryd.prog 47 #[.slice ad n cap] w0 fun e w => ∃ (C S : List Int) (ao : Option Addr) (co : Nat), Mk c n C S ∧ e = .returned (.tuple #[tv C (.slice ao S.length co), .int .i64 0]) ∧ St w0 w [own 3 1 ao S.length co (S.map (Value.int .i64))] := by
 refine (make_any w0 c ad n cap hv hn hok).mono ?_
 rintro e w ⟨f, R, C, S, ao, co, hR, hf, hC, hCi, hSy, rfl, hS⟩
 have hcl : c.length = n := by have := hv.1; simpa using this
 obtain ⟨b1, b2⟩ := bE_ok hok
 rw [hcl] at b1 b2
 obtain ⟨m1, m2, m3, m4, m5⟩ := made_law b1 (fun i hi => (b2 i hi).1) hR f hf
 obtain ⟨t1, t2, t3, t4⟩ := made_table b1 m1 m2 m3 hCi hSy
 have hin : ∀ s ∈ posL c n, 0 ≤ s ∧ s < n := fun s hs => by have := (posL_mem c n s).1 hs; exact ⟨this.1, this.2.1⟩
 have hcost : costL c n (lw (wds C S)) = costL c n f := costL_congr _ _ _ _ t2
 refine ⟨C, S, ao, co, ⟨hC, t1, t4, t3, fun l hl => by rw [hcost]; exact m4 l hl, fun a b ha hb h => ?_, table_len t1 c n fun s hs => (t4 s).2 hs⟩, rfl, hS⟩
 rw [t2 a (hin a ha).1 (hin a ha).2, t2 b (hin b hb).1 (hin b hb).2]
 exact m5 a b ha hb h
theorem build_tab0 (w : World) : (Instr.build 31 #[]).run Tryd.prog w = .ok (tv (List.replicate 16 0) (.slice none 0 0)) w := by kernel_rfl
set_option maxRecDepth 100000 in
set_option maxHeartbeats 4000000 in
theorem make_bad (w0 : World) (c : List Int) (ad : Option Addr) (n cap : Nat) (hv : Sl w0 1 (.slice ad n cap) n (c.map (Value.int .i64))) (hn : n ≤ 9223372036854775807) (hbad : bE c ≠ 0) :
 Calls Tryd.prog 47 #[.slice ad n cap] w0 fun e w => e = .returned (.tuple #[tv (List.replicate 16 0) (.slice none 0 0), .int .i64 (bE c)]) ∧ Ext w0 w := by
 have hS := St.start w0
 have HCK := hid (fun (w : World) (hE : Ext w0 w) => bcheck_any w c ad n cap (hv.ext hE) hn)
 obtain ⟨B, hB⟩ : ∃ B, bE c = B := ⟨_, rfl⟩
 rw [hB] at HCK hbad ⊢
 clear hB
 go_enter Tryd.func47, Tryd.ntmps47
 repeat' (first
  | ((with_reducible refine gt9 _ (.call ⟨.value (.func 45), _, _⟩) ?_); refine wpl_call (f := 45) Tryd.call45 kr9 ?_; refine ⟨_, (HCK.out _ hS.1), ?_⟩; rintro e w ⟨rfl, hE2⟩; replace hS := hS.ext hE2; clear hE2; refine ⟨_, rfl, ?_⟩; refine put_move ?_; go_step) | (refine y91 ?_) | ((with_reducible refine gs9 22 ?_); (refine wvv9 (V.neq rfl rfl) ?_; go_step)) | ((with_reducible refine gs9 2 ?_); (refine wl9 ?_; apply wp_allocP (o := ⟨some 2, _, _, _, _, _⟩) hS 31 rfl _ zp31; clear hS; intro g2 w hS; refine put_move ?_; go_step)) | ((fail_if_success with_reducible refine ga9 ?_); go_step))
 repeat' (first
  | ((with_reducible refine gs9 23 ?_); refine wvv9 (V.build (vs := []) rfl build_tab0) ?_; go_step) | (refine y91 ?_) | ((with_reducible refine gt9 _ (.store 31 _ _) ?_); (refine wl9 ?_; apply wp_storePP hS 31 _ _ rfl _ rfl 17 (row_of rfl) _ _; (case hp => exact pl9); (case hy => rfl); (case hn => (repeat (first | exact Pre.nil | (apply Pre.ints; (case hn => (first | (with_reducible assumption) | exact Len.rep | exact Len.set (by with_reducible assumption) | exact Len.set Len.rep | exact Len.set (Len.set Len.rep))); (case h => omega); (case hm => rfl)) | apply Pre.val))); (case hn' => (repeat (first | exact Pre.nil | (apply Pre.ints; (case hn => (first | (with_reducible assumption) | exact Len.rep | exact Len.set (by with_reducible assumption) | exact Len.set Len.rep | exact Len.set (Len.set Len.rep))); (case h => omega); (case hm => rfl)) | apply Pre.val))); (case hv => rfl); (case hd => exact rfl); clear hS; intro w hS)) | ((fail_if_success with_reducible refine ga9 ?_); go_step))
 refine ret_all (xs := [_, _]) rfl (.cons (OneRes.prt hS rfl (row_of (n := 17) rfl) pl9 (by (repeat (first | exact Pre.nil | (apply Pre.ints; (case hn => (first | (with_reducible assumption) | exact Len.rep | exact Len.set (by with_reducible assumption) | exact Len.set Len.rep | exact Len.set (Len.set Len.rep))); (case h => omega); (case hm => rfl)) | apply Pre.val)))) (.cons (OneRes.tmp rfl) (.nil))) (by simp) rfl ?_
 exact ⟨rfl, hS.1⟩
theorem zero_len : Len (List.replicate 16 (0 : Int)) 16 := List.length_replicate
theorem zero_tab : tabE (List.replicate 16 0) [] = 0 := by decide

set_option maxRecDepth 100000
open Go.RowKit
set_option linter.unusedVariables false

end Go.Proofs.YtehbjhocgnfpmaaDoor
/- best.Make, whatever comes. -/
namespace Go.Proofs.YtehbjhocgnfpmaaDoor
open Go.RowKit
set_option linter.unusedVariables false
theorem make_both (w0 : World) (c : List Int) (ad : Option Addr) (n cap : Nat) (hv : Sl w0 1 (.slice ad n cap) n (c.map (Value.int .i64))) (hn : n ≤ 9223372036854775807) :
 Calls Tryd.prog 47 #[.slice ad n cap] w0 fun e w => ∃ (C S : List Int) (ao : Option Addr) (m co : Nat), Len C 16 ∧ S.length = m ∧ m ≤ 256 ∧ tabE C S = 0 ∧ (bE c = 0 → Mk c n C S) ∧ e = .returned (.tuple #[tv C (.slice ao m co), .int .i64 (bE c)]) ∧ St w0 w [own 3 1 ao m co (S.map (Value.int .i64))] := by
 by_cases hb : bE c = 0
 · refine (make_good w0 c ad n cap hv hn hb).mono ?_
   rintro e w ⟨C, S, ao, co, hM, rfl, hS⟩
   exact ⟨C, S, ao, S.length, co, hM.len, rfl, (tabE_ok hM.ok).2.2.1, hM.ok, fun _ => hM, by rw [hb], hS⟩
 · refine (make_bad w0 c ad n cap hv hn hb).mono ?_
   rintro e w ⟨rfl, hE⟩
   exact ⟨_, [], none, 0, 0, zero_len, rfl, by omega, zero_tab, fun h => absurd h hb, rfl, (St.of_ext hE).nil _ _⟩

end Go.Proofs.YtehbjhocgnfpmaaDoor
/- The walk of fitting, and the closed fact on segments. -/
namespace Go.Proofs.YtehbjhocgnfpmaaDoor
open Go.RowKit
set_option maxRecDepth 100000
set_option linter.unusedVariables false
theorem tabsRaw (m0 m1 m2 m3 m4 m5 m6 m7 m8 m9 m10 m11 m12 m13 m14 m15 q0 q1 q2 q3 q4 q5 q6 q7 q8 q9 q10 q11 q12 q13 q14 q15 : Int) (a b : Option Addr) (n c k d : Nat) (w : World) : (Instr.build 33 #[(0, tv [m0, m1, m2, m3, m4, m5, m6, m7, m8, m9, m10, m11, m12, m13, m14, m15] (.slice a n c)), (1, tv [q0, q1, q2, q3, q4, q5, q6, q7, q8, q9, q10, q11, q12, q13, q14, q15] (.slice b k d))]).run Tryd.prog w = .ok (.agg (pcells [.ints [m0, m1, m2, m3, m4, m5, m6, m7, m8, m9, m10, m11, m12, m13, m14, m15], .val (.slice a n c), .ints [q0, q1, q2, q3, q4, q5, q6, q7, q8, q9, q10, q11, q12, q13, q14, q15], .val (.slice b k d)]).toArray) w := by kernel_rfl
theorem tabsBuild (l l2 : List Int) (hl : l.length = 16) (hl2 : l2.length = 16) (a b : Option Addr) (n c k d : Nat) (w : World) : (Instr.build 33 #[(0, tv l (.slice a n c)), (1, tv l2 (.slice b k d))]).run Tryd.prog w = .ok (.agg (pcells [.ints l, .val (.slice a n c), .ints l2, .val (.slice b k d)]).toArray) w := by
 match l, hl, l2, hl2 with
 | [m0, m1, m2, m3, m4, m5, m6, m7, m8, m9, m10, m11, m12, m13, m14, m15], _, [q0, q1, q2, q3, q4, q5, q6, q7, q8, q9, q10, q11, q12, q13, q14, q15], _ => exact tabsRaw _ _ _ _ _ _ _ _ _ _ _ _ _ _ _ _ _ _ _ _ _ _ _ _ _ _ _ _ _ _ _ _ a b n c k d w
def FitGives (w0 : World) (F R : List Int) (e : Ending) (w : World) : Prop :=
 ∃ (C1 S1 C2 S2 : List Int) (a1 a2 : Option Addr) (m1 k1 m2 k2 : Nat) (b : Bool), Len C1 16 ∧ Len C2 16 ∧ S1.length = m1 ∧ S2.length = m2 ∧ m1 ≤ 256 ∧ m2 ≤ 256 ∧ tabE C1 S1 = 0 ∧ tabE C2 S2 = 0 ∧ (bE (cnt F) = 0 → Mk (cnt F) 256 C1 S1) ∧ (bE (cnt R) = 0 → Mk (cnt R) 256 C2 S2) ∧ (b = true ↔ bE (cnt F) = 0 ∧ bE (cnt R) = 0) ∧
  e = .returned (.tuple #[.agg (pcells [.ints C1, .val (.slice a1 m1 k1), .ints C2, .val (.slice a2 m2 k2)]).toArray, .bool b]) ∧ St w0 w [own 3 1 a1 m1 k1 (S1.map (Value.int .i64)), own 3 1 a2 m2 k2 (S2.map (Value.int .i64))]
set_option maxHeartbeats 8000000 in
theorem fitting_any (w0 : World) (ad : Option Addr) (n c : Nat) (l : List Int) (every : Nat) (hn : n ≤ 1048576) (he : every ≤ 1048576) (hv : Sl w0 64 (.slice ad n c) n (l.map (Value.int .i64))) :
 Calls Tryd.prog 22 #[.slice ad n c, .int .i64 every] w0 (FitGives w0 (frF l (pts n every)) (frR l (pts n every))) := by
 have hS := St.start w0
 obtain ⟨F, hF⟩ : ∃ F, frF l (pts n every) = F := ⟨_, rfl⟩
 obtain ⟨R, hR⟩ : ∃ F, frR l (pts n every) = F := ⟨_, rfl⟩
 rw [hF, hR]
 have HF := hid hF
 have HR := hid hR
 clear hF hR
 obtain ⟨E1, hE1⟩ : ∃ E, bE (cnt F) = E := ⟨_, rfl⟩
 obtain ⟨E2, hE2⟩ : ∃ E, bE (cnt R) = E := ⟨_, rfl⟩
 have HE1 := hid hE1
 have HE2 := hid hE2
 clear hE1 hE2
 go_enter Tryd.func22, Tryd.ntmps22
 repeat' (first
  | ((with_reducible refine gs9 15 ?_); refine wpl_call (f := 46) Tryd.call46 kr9 ?_; refine ⟨_, (frameCounts_any _ ad n c l every hn he (hv.ext hS.1)), ?_⟩; rintro e w ⟨g1, g2, rfl, hS2⟩; rw [HF.out, HR.out] at hS2; replace hS := call_two hS hS2; clear hS2; refine ⟨_, rfl, ?_⟩; refine put_move ?_; go_step) | ((with_reducible refine gs9 20 ?_); refine wpl_call (f := 47) Tryd.call47 kr9 ?_; refine ⟨_, (make_both _ (cnt F) (some ⟨g1, 0, none⟩) 256 256 (hS.sl pl9) (by decide)), ?_⟩; rintro e w ⟨C1, S1, a1, m1, k1, hC1, hm1, hb1, ht1, hM1, rfl, hS2⟩; rw [HE1.out]; replace hS := hS.call1 hS2; clear hS2; have HM1 := hid hM1; have HT1 := hid ht1; clear hM1 ht1; refine ⟨_, rfl, ?_⟩; refine put_move ?_; go_step) | ((with_reducible refine gs9 25 ?_); refine wpl_call (f := 47) Tryd.call47 kr9 ?_; refine ⟨_, (make_both _ (cnt R) (some ⟨g2, 0, none⟩) 256 256 (hS.sl pl9) (by decide)), ?_⟩; rintro e w ⟨C2, S2, a2, m2, k2, hC2, hm2, hb2, ht2, hM2, rfl, hS2⟩; rw [HE2.out]; replace hS := hS.call1 hS2; clear hS2; have HM2 := hid hM2; have HT2 := hid ht2; clear hM2 ht2; refine ⟨_, rfl, ?_⟩; refine put_move ?_; go_step) | (refine y91 ?_) | (refine y9105 ?_) | ((with_reducible refine gs9 4 ?_); (refine wl9 ?_; apply wp_allocP (o := ⟨some 4, _, _, _, _, _⟩) hS 33 rfl _ zp33; clear hS; intro g4 w hS; refine put_move ?_; go_step)) | ((with_reducible refine gs9 8 ?_); (refine wl9 ?_; apply wp_allocP (o := ⟨some 8, _, _, _, _, _⟩) hS 31 rfl _ zp31; clear hS; intro g8 w hS; refine put_move ?_; go_step)) | ((with_reducible refine gt9 _ (.store 31 _ _) ?_); (refine wl9 ?_; apply wp_storePP hS 31 _ _ rfl _ rfl 17 (row_of rfl) _ _; (case hp => exact pl9); (case hy => rfl); (case hn => (repeat (first | exact Pre.nil | (apply Pre.ints; (case hn => (first | (with_reducible assumption) | exact Len.rep | exact Len.set (by with_reducible assumption) | exact Len.set Len.rep | exact Len.set (Len.set Len.rep))); (case h => omega); (case hm => rfl)) | apply Pre.val))); (case hn' => (repeat (first | exact Pre.nil | (apply Pre.ints; (case hn => (first | (with_reducible assumption) | exact Len.rep | exact Len.set (by with_reducible assumption) | exact Len.set Len.rep | exact Len.set (Len.set Len.rep))); (case h => omega); (case hm => rfl)) | apply Pre.val))); (case hv => rfl); (case hd => exact rfl); clear hS; intro w hS)) | ((with_reducible refine gs9 10 ?_); (refine wl9 ?_; apply wp_allocP (o := ⟨some 10, _, _, _, _, _⟩) hS 31 rfl _ zp31; clear hS; intro g10 w hS; refine put_move ?_; go_step)) | ((fail_if_success with_reducible refine ga9 ?_); go_step))
 repeat' (first
  | ((with_reducible refine gs9 30 ?_); refine wplV (.agg (pcells [.ints C1, .val (.slice a1 m1 k1), .ints C2, .val (.slice a2 m2 k2)]).toArray) (V.build (vs := [(0, tv C1 (.slice a1 m1 k1)), (1, tv C2 (.slice a2 m2 k2))]) rfl (tabsBuild C1 C2 hC1.out hC2.out _ _ _ _ _ _)) kr9 ?_; go_step) | go_skip | (refine y91 ?_) | (refine y9141 ?_) | ((with_reducible refine gs9 32 ?_); (refine wplD _ (V.eql rfl rfl) kr9 (fun hB => ?_) (fun hB => ?_) <;> (try (have hF : False := (by omega); cases hF)) <;> go_step)) | ((with_reducible refine gt9 _ (.binOp .eql 25 _ _ _) ?_); (refine wvv9 (V.eql rfl rfl) ?_; go_step)) | (refine y9126 ?_) | ((with_reducible refine gt9 _ (.store 33 _ _) ?_); (refine wl9 ?_; apply wp_storePP hS 33 _ _ rfl _ rfl 34 (row_of rfl) _ _; (case hp => exact pl9); (case hy => rfl); (case hn => (repeat (first | exact Pre.nil | (apply Pre.ints; (case hn => (first | (with_reducible assumption) | exact Len.rep | exact Len.set (by with_reducible assumption) | exact Len.set Len.rep | exact Len.set (Len.set Len.rep))); (case h => omega); (case hm => rfl)) | apply Pre.val))); (case hn' => (repeat (first | exact Pre.nil | (apply Pre.ints; (case hn => (first | (with_reducible assumption) | exact Len.rep | exact Len.set (by with_reducible assumption) | exact Len.set Len.rep | exact Len.set (Len.set Len.rep))); (case h => omega); (case hm => rfl)) | apply Pre.val))); (case hv => rfl); (case hd => exact rfl); clear hS; intro w hS)) | ((fail_if_success with_reducible refine ga9 ?_); go_step))
 all_goals
  refine ret_all (xs := [_, _]) rfl (.cons (OneRes.prt hS rfl (row_of (n := 34) rfl) pl9 (by (repeat (first | exact Pre.nil | (apply Pre.ints; (case hn => (first | (with_reducible assumption) | exact Len.rep | exact Len.set (by with_reducible assumption) | exact Len.set Len.rep | exact Len.set (Len.set Len.rep))); (case h => omega); (case hm => rfl)) | apply Pre.val)))) (.cons (OneRes.tmp rfl) (.nil))) (by simp) rfl ?_
  refine ⟨C1, S1, C2, S2, a1, a2, m1, k1, m2, k2, _, hC1, hC2, hm1, hm2, hb1, hb2, HT1.out, HT2.out, HM1.out, HM2.out, ?_, rfl, hS.sub sb9⟩
  rw [HE1.out, HE2.out]
  simp <;> omega

set_option maxRecDepth 100000
set_option linter.unusedVariables false
theorem cnt_filter : ∀ (T : List (Tok × Bool)) (A B : List Int), ech cntStep T (A, B) = (0, A ++ (T.filter fun x => x.2).map (·.1.1), B ++ (T.filter fun x => !x.2).map (·.1.1))
 | [], A, B => by simp [ech]
 | (t, b) :: T, A, B => by
  rw [ech, if_pos (show (cntStep (A, B) t b).1 = 0 from rfl)]
  cases b
  · show ech cntStep T (A, B ++ [t.1]) = _
    rw [cnt_filter T]; simp
  · show ech cntStep T (A ++ [t.1], B) = _
    rw [cnt_filter T]; simp
theorem tfl_sy (l : List Int) (n : Nat) : ∀ x ∈ tfl l 0 n, (x.2 = true → x.1.1 ∈ syF l n) ∧ (x.2 = false → x.1.1 ∈ syR l n) := by
 have h := (cnt_tfl l n).symm.trans (cnt_filter (tfl l 0 n) [] [])
 simp only [Prod.mk.injEq, List.nil_append, true_and] at h
 intro x hx
 refine ⟨fun h2 => ?_, fun h2 => ?_⟩
 · rw [h.1]; exact List.mem_map.2 ⟨x, List.mem_filter.2 ⟨hx, h2⟩, rfl⟩
 · rw [h.2]; exact List.mem_map.2 ⟨x, List.mem_filter.2 ⟨hx, by rw [h2]; rfl⟩, rfl⟩
theorem mk_words {C1 S1 C2 S2 l : List Int} {n : Nat} (hl : l.length = n * 64) (h1 : Mk (cnt (syF l n)) 256 C1 S1) (h2 : Mk (cnt (syR l n)) 256 C2 S2) : words (wds C1 S1) (wds C2 S2) (tfl l 0 n) := by
 intro x hx
 have hok := (tfl_okT hl n 0 (by omega)).1 x hx
 obtain ⟨⟨r1, r2⟩, _⟩ := hok
 obtain ⟨k1, k2⟩ := tfl_sy l n x hx
 have key : ∀ (L : List Int), x.1.1 ∈ L → x.1.1 ∈ posL (cnt L) 256 := fun L hL => by
  rw [posL_mem]
  refine ⟨r1, by omega, ?_⟩
  rw [cnt_nth _ (by omega)]
  have h3 : (((x.1.1.toNat : Nat)) : Int) = x.1.1 := by omega
  rw [h3]
  have := List.count_pos_iff.2 hL
  omega
 obtain ⟨t, b⟩ := x
 cases b
 · show (symW (wds C2 S2) t.1).isSome = true
   exact (symW_iff h2.ok _).2 ((h2.mem _).2 (key _ (k2 rfl)))
 · show (symW (wds C1 S1) t.1).isSome = true
   exact (symW_iff h1.ok _).2 ((h1.mem _).2 (key _ (k1 rfl)))
theorem cnt_small {L : List Int} (h : L.length ≤ 9999) : bE (cnt L) = 0 := by
 refine bE_of (by rw [cnt_len]; omega) fun i hi => ?_
 rw [cnt_len] at hi
 have := cnt_bd L hi
 omega
theorem fr_one (l : List Int) (n : Nat) : frF l (pts n 0) = syF l n ∧ frR l (pts n 0) = syR l n := by
 have h : pts n 0 = [(n : Int)] := by unfold pts; rw [if_pos (.inl rfl)]
 rw [h]
 simp [frF, frR]
theorem spn_one (n every : Nat) (h : every = 0 ∨ n ≤ every) (hn : 0 < n) : spn n every = [(0, n)] := by
 unfold spn
 by_cases h0 : every = 0 ∨ n = 0
 · rw [if_pos h0]
 · rw [if_neg h0]
   obtain ⟨m, rfl⟩ : ∃ m, n = m + 1 := ⟨n - 1, by omega⟩
   rw [spnA, if_pos (by omega), show min (0 + every) (m + 1) = m + 1 by omega]
   congr 1
   cases m with
   | zero => rfl
   | succ m => rw [spnA, if_neg (by omega)]
theorem sub64_all {l : List Int} {n : Nat} (hl : l.length = n * 64) : sub64 l 0 n = l := by
 unfold sub64
 rw [Nat.zero_mul, List.drop_zero, Nat.sub_zero, List.take_of_length_le (by omega)]
theorem scEn_one {C1 S1 C2 S2 l : List Int} {n : Nat} {every : Nat} (hl : l.length = n * 64) (h : every = 0 ∨ n ≤ every) (he : every ≤ 100) (hn : 0 < n) (ht : tbE C1 S1 C2 S2 = 0) (hb : blkE l n = 0) (h0 : segE C1 S1 C2 S2 l n = 0) : scEn C1 S1 C2 S2 l n every = (0, segB C1 S1 C2 S2 l n) := by
 have hen : enl C1 S1 C2 S2 l (spn n every) 0 = (0, segB C1 S1 C2 S2 l n) := by
  rw [spn_one n every h hn]
  simp only [enl, sub64_all hl, Nat.sub_zero, h0]
  simp
 unfold scEn
 rw [if_pos (by omega), if_pos ht, if_pos hb, Int.toNat_natCast, hen, if_pos rfl]
theorem ite_fst9 {p : Prop} [inst : Decidable p] (h : p) (a b : Int × List Int) : (if p then a else b).1 = a.1 := by rw [if_pos h]
theorem scD_one {C1 S1 C2 S2 b : List Int} {n : Nat} {every : Nat} (h : every = 0 ∨ n ≤ every) (hn : 0 < n) (hs : (segD C1 S1 C2 S2 b n).1 ≠ 0) : (scD C1 S1 C2 S2 b n every).1 ≠ 0 := by
 unfold scD
 by_cases hw : whE C1 S1 C2 S2 b n every = 0
 case neg => rw [if_neg hw]; exact hw
 rw [if_pos hw]
 have hp : pcE C1 S1 C2 S2 b n every = 0 := by
  unfold whE at hw
  by_cases h1 : pcE C1 S1 C2 S2 b n every = 0
  · exact h1
  · rw [if_neg h1] at hw; exact absurd hw h1
 obtain ⟨_, _, ⟨ps, ms⟩, hsp⟩ := pcE_zero hp
 unfold whE at hw
 rw [if_pos hp, hsp] at hw
 dsimp only at hw
 rw [Int.toNat_natCast, Int.toNat_natCast, spn_one n every h hn] at hw
 have hl : ps.length = 1 := by
  by_cases h1 : ps.length = [(0, n)].length
  · simpa using h1
  · rw [if_neg h1] at hw; cases hw
 obtain ⟨q, r, e1, e2, e3, _, _⟩ := spf_spec b.length b [] [] [] ps ms (Nat.le_refl _) hsp
 have hr : r = [] := by
  rw [e1] at hl
  simp at hl
  exact hl
 have hps : ps = [b] := by rw [e1, e3, hr]; simp
 rw [hsp]
 dsimp only
 rw [Int.toNat_natCast, Int.toNat_natCast, spn_one n every h hn, hps]
 have hd : (sdl C1 S1 C2 S2 [(0, n)] [b]).1 = (segD C1 S1 C2 S2 b n).1 := by
  rw [sdl]
  exact ite_fst9 hs _ _
 rw [if_neg (by rw [hd]; exact hs), hd]
 exact hs
theorem segB_pos {C1 S1 C2 S2 l : List Int} {n : Nat} (hl : l.length = n * 64) (hn : 0 < n) (h0 : segE C1 S1 C2 S2 l n = 0) (ht : tbE C1 S1 C2 S2 = 0) (hb : blkE l n = 0) (hw : words (wds C1 S1) (wds C2 S2) (tfl l 0 n)) : 0 < (segB C1 S1 C2 S2 l n).length := by
 obtain ⟨t1, t2⟩ := tbE_zero ht
 have hall : allBlk l n = true := by
  unfold blkE at hb
  split at hb
  · cases hb
  · cases h : allBlk l n
    · rw [h] at hb; cases hb
    · rfl
 unfold segB segBits
 rw [if_pos h0, enc_all _ _ _ [] hw, List.nil_append, stf_len]
 unfold byI
 rw [List.length_map, bytesOf_len]
 obtain ⟨m, rfl⟩ : ∃ m, n = m + 1 := ⟨n - 1, by omega⟩
 obtain ⟨_, htk⟩ := tkb_ok hl hall (show 0 < m + 1 by omega)
 have hx : (tok 0 (nth (zto (seg l 64 0)) 0 - bef l 0), true) ∈ tfl l 0 (m + 1) := by
  rw [tfl, htk]
  exact List.mem_append_left _ (by unfold toksOf mark; simp)
 have h1 := hw _ hx
 have hlen : 1 ≤ ((tfl l 0 (m + 1)).flatMap (tkBits (wds C1 S1) (wds C2 S2))).length := by
  obtain ⟨y, hy⟩ := Option.isSome_iff_exists.1 h1
  have hm : ((tok 0 (nth (zto (seg l 64 0)) 0 - bef l 0)).1, y) ∈ wds C1 S1 := symW_mem hy
  have hg := (wds_good t1).long _ hm
  have h3 : 1 ≤ (tkBits (wds C1 S1) (wds C2 S2) (tok 0 (nth (zto (seg l 64 0)) 0 - bef l 0), true)).length := by
   unfold tkBits
   dsimp only
   rw [if_pos rfl, wb_of (wds_good t1) hm, List.length_append, bitsOf_len]
   dsimp only at hg ⊢
   omega
  rw [tfl, htk, List.flatMap_append, List.length_append]
  unfold toksOf mark
  rw [List.flatMap_cons, List.length_append]
  omega
 dsimp only
 omega

end Go.Proofs.YtehbjhocgnfpmaaDoor