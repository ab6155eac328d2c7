/- The walk of slices.SortStableFunc. -/
import Derived.Test.YtembekkanggciaaSort2
namespace Go.Proofs.Ytembekkanggciaa
set_option maxRecDepth 100000
open Go.RowKit
set_option linter.unusedVariables false
theorem asc_void {lo hi : Nat} {P : List PkV} (h : hi ≤ lo) : Asc PkV.w lo hi P := fun i j h1 h2 h3 => by omega
theorem asc_eq {lo hi lo' hi' : Nat} {P : List PkV} (h : Asc PkV.w lo hi P) (h1 : lo = lo') (h2 : hi' ≤ hi) : Asc PkV.w lo' hi' P := by subst h1; exact h.sub (Nat.le_refl _) h2
/-- Blocks of s are sorted, each by itself. -/
def Blks (s n : Nat) (P : List PkV) : Prop := ∀ k, Asc PkV.w (k * s) (min (k * s + s) n) P
set_option maxRecDepth 100000 in
set_option maxHeartbeats 8000000 in
theorem stable_any (W w0 : World) (rs rs' : List Res) (g n c : Nat) (P : List PkV) (hS : St W w0 rs) (hp : Pull (pks g n c P) rs rs') (hn : n ≤ 100000) :
    Calls Try.prog 27 #[.slice (some ⟨g, 0, none⟩) n c, .int .i64 n, byW] w0 fun e w => e = .returned (.tuple #[]) ∧ ∃ Q, Asc PkV.w 0 n Q ∧ Rg 0 n P Q ∧ St W w (pks g n c Q :: rs') := by
  replace hS := hS.pull hp
  have hPl := own_recs hS Pull.head pkE_len (by decide)
  clear hp
  go_enter Try.func27, Try.ntmps27
  repeat' (first
    | ((with_reducible show wpList _ _ _ (⟨_, .move _, _, _, _, _⟩ :: _) _ _); (first | go_big_want | go_step); go_step)
    | ((with_reducible show wpList _ _ _ (⟨_, .assign _, _, _, _, _⟩ :: _) _ _); (first | go_big_want | go_step); go_step)
    | ((fail_if_success (with_reducible show wpList _ _ _ (_ :: _) _ _)); go_step))
  go_loopg [7, 8] n (fun gk av bv w => ∃ (k a : Nat) (Q : List PkV), gk + k = n ∧ a = k * 20 ∧ a ≤ n ∧ av = .int .i64 a ∧ bv = .int .i64 (a + 20 : Nat) ∧ (∀ j, j < k → Asc PkV.w (j * 20) (j * 20 + 20) Q) ∧ Rg 0 n P Q ∧ St W w (pks g n c Q :: rs'))
  case atStart => exact ⟨0, 0, P, by omega, rfl, by omega, rfl, rfl, fun j h => by omega, Rg.refl _ _ _, hS⟩
  case round =>
    clear hS
    obtain ⟨k, a, Q, hk, ha, han, rfl, rfl, hA, hR, hS⟩ := hrel
    have HA := hid hA
    have HR := hid hR
    have hQl := hR.len
    clear hA hR
    by_cases hlt : a + 20 ≤ n
    · have HC := hid (fun (w : World) (hS : St W w (pks g n c Q :: rs')) => insSort_any W w (pks g n c Q :: rs') rs' g n c a (a + 20) Q hS Pull.head (by omega) hlt (by omega))
      repeat' (first
        | ((with_reducible show wpList _ _ _ (⟨some 22, .binOp .add _ _ _ _, _, _, _, _⟩ :: _) _ _); (refine wplV (.int _ (((a + 20 + 20 : Nat) : Int))) (V.as (V.addI rfl rfl (by omega)) (by omega)) rfl ?_; go_step))
        | ((with_reducible show wpList _ _ _ (⟨_, .call ⟨.value (.func 32), _, _⟩, _, _, _, _⟩ :: _) _ _); refine wpl_call (f := 32) Try.call32 (by kernel_rfl) ?_; refine ⟨_, (HC.out _ hS), ?_⟩; rintro e w ⟨rfl, Z, hZ1, hZ2, hS2⟩; replace hS := hS2; clear hS2; refine ⟨_, rfl, ?_⟩; refine put_move ?_; go_step)
        | ((with_reducible show wpList _ _ _ (⟨_, .move _, _, _, _, _⟩ :: _) _ _); (first | go_big_want | go_step); go_step)
        | ((with_reducible show wpList _ _ _ (⟨_, .assign _, _, _, _, _⟩ :: _) _ _); (first | go_big_want | go_step); go_step)
        | ((with_reducible show wpList _ _ _ (⟨some 13, .binOp .leq _ _ _ _, _, _, _, _⟩ :: _) _ _); (refine wplV _ (V.leq rfl rfl) (by kernel_rfl) ?_; go_step))
        | ((fail_if_success (with_reducible show wpList _ _ _ (_ :: _) _ _)); go_step))
      go_roundg (gk - 1)
      case measure => omega
      case rel =>
        refine ⟨k + 1, a + 20, Z, by omega, by omega, by omega, rfl, by go_num, fun j hj => ?_, HR.out.trans (hZ2.wide (by omega) (by omega) (by omega) (by omega)), hS⟩
        by_cases hjk : j = k
        · subst hjk; rw [← ha]; exact hZ1
        · exact (HA.out j (by omega)).same fun x k1 k2 => hZ2.out x (by omega)
    · have HC := hid (fun (w : World) (hS : St W w (pks g n c Q :: rs')) => insSort_any W w (pks g n c Q :: rs') rs' g n c a n Q hS Pull.head (by omega) (by omega) (by omega))
      repeat' (first
        | ((with_reducible show wpList _ _ _ (⟨_, .move _, _, _, _, _⟩ :: _) _ _); (first | go_big_want | go_step); go_step)
        | ((with_reducible show wpList _ _ _ (⟨some 13, .binOp .leq _ _ _ _, _, _, _, _⟩ :: _) _ _); (refine wplV _ (V.leq rfl rfl) (by kernel_rfl) ?_; go_step))
        | ((fail_if_success (with_reducible show wpList _ _ _ (_ :: _) _ _)); go_step))
      repeat' (first
        | ((with_reducible show wpList _ _ _ (⟨_, .call ⟨.value (.func 32), _, _⟩, _, _, _, _⟩ :: _) _ _); refine wpl_call (f := 32) Try.call32 (by kernel_rfl) ?_; refine ⟨_, (HC.out _ hS), ?_⟩; rintro e w ⟨rfl, Z, hZ1, hZ2, hS2⟩; replace hS := hS2; clear hS2; refine ⟨_, rfl, ?_⟩; refine put_move ?_; go_step)
        | ((fail_if_success (with_reducible show wpList _ _ _ (_ :: _) _ _)); go_step))
      have hB : Blks 20 n Z := fun j => by
        by_cases h1 : j < k
        · exact ((HA.out j h1).same fun x k1 k2 => hZ2.out x (by omega)).sub (Nat.le_refl _) (Nat.min_le_left _ _)
        · by_cases h2 : j = k
          · subst h2; rw [← ha]; exact hZ1.sub (Nat.le_refl _) (Nat.min_le_right _ _)
          · exact asc_void (by omega)
      have hRZ : Rg 0 n P Z := HR.out.trans (hZ2.wide (by omega) (by omega) (by omega) (by omega))
      have HB := hid hB
      have HRZ := hid hRZ
      clear hB hRZ HR HA HC hZ1 hZ2
      go_loopg [6] (n - 20) (fun gk sv w => ∃ (s : Nat) (Q : List PkV), gk + s = max n s ∧ 1 ≤ s ∧ s ≤ 2 * n + 20 ∧ sv = .int .i64 s ∧ Blks s n Q ∧ Rg 0 n P Q ∧ St W w (pks g n c Q :: rs'))
      case atStart => exact ⟨20, Z, by omega, by omega, by omega, rfl, HB.out, HRZ.out, hS⟩
      case round =>
        clear hS HB HRZ
        obtain ⟨s, Q, hk, hs1, hs2, rfl, hB, hR, hS⟩ := hrel
        have HB := hid hB
        have HR := hid hR
        have hQl := hR.len
        clear hB hR
        by_cases hlt2 : s < n
        · obtain ⟨gk1, hgk1⟩ : ∃ x, x = gk := ⟨_, rfl⟩
          subst hgk1
          obtain ⟨t, ht⟩ : ∃ t, t = 2 * s := ⟨_, rfl⟩
          repeat' (first
            | ((with_reducible show wpList _ _ _ (⟨some 32, .binOp .mul _ _ _ _, _, _, _, _⟩ :: _) _ _); (refine wplV (.int _ (((t : Nat) : Int))) (V.as (V.mulI rfl rfl (by omega)) (by omega)) rfl ?_; go_step))
            | ((with_reducible show wpList _ _ _ (⟨_, .move _, _, _, _, _⟩ :: _) _ _); (first | go_big_want | go_step); go_step)
            | ((with_reducible show wpList _ _ _ (⟨_, .assign _, _, _, _, _⟩ :: _) _ _); (first | go_big_want | go_step); go_step)
            | ((with_reducible show wpList _ _ _ (⟨some 30, .binOp .lss _ _ _ _, _, _, _, _⟩ :: _) _ _); (refine wplV _ (V.lss rfl rfl) (by kernel_rfl) ?_; go_step))
            | ((fail_if_success (with_reducible show wpList _ _ _ (_ :: _) _ _)); go_step))
          go_loopg [7, 8] n (fun gk av bv w => ∃ (k a : Nat) (Q : List PkV), gk + k = n ∧ a = k * t ∧ a ≤ n ∧ av = .int .i64 a ∧ bv = .int .i64 (a + t : Nat) ∧ (∀ j, j < k → Asc PkV.w (j * t) (j * t + t) Q) ∧ (∀ j, 2 * k ≤ j → Asc PkV.w (j * s) (min (j * s + s) n) Q) ∧ Rg 0 n P Q ∧ St W w (pks g n c Q :: rs'))
          case atStart => exact ⟨0, 0, Q, by omega, by omega, by omega, rfl, by rw [Nat.zero_add], fun j h => by omega, fun j _ => HB.out j, HR.out, hS⟩
          case round =>
            clear hS HB HR
            obtain ⟨k, a, Q, hk3, ha, han, rfl, rfl, hA, hA2, hR, hS⟩ := hrel
            have hQl := hR.len
            have m1 : 2 * k * s = a := by rw [ha, ht, Nat.mul_comm 2 k, Nat.mul_assoc]
            have m2 : (2 * k + 1) * s = a + s := by rw [Nat.add_mul, m1, Nat.one_mul]
            have m3 : (k + 1) * t = a + t := by rw [Nat.add_mul, Nat.one_mul, ← ha]
            have m4 : ∀ j, 2 * k + 2 ≤ j → a + t ≤ j * s := fun j hj => by
              have := Nat.mul_le_mul_right s hj
              rw [show (2 * k + 2) * s = a + t by rw [Nat.add_mul, m1, ht]] at this
              exact this
            have m5 : ∀ j, j < k → j * t + t ≤ a := fun j hj => by
              have := Nat.mul_le_mul_right t hj
              rw [Nat.succ_mul, ← ha] at this
              exact this
            have m6 : ∀ j, k < j → a + t ≤ j * t := fun j hj => by
              have := Nat.mul_le_mul_right t hj
              rw [show (k.succ) * t = a + t from m3] at this
              exact this
            have hkt : k ≤ k * t := Nat.le_mul_of_pos_right k (by omega)
            rw [← ha] at hkt
            have a1 := hA2 (2 * k) (Nat.le_refl _)
            have a2 := hA2 (2 * k + 1) (by omega)
            rw [m1] at a1
            rw [m2] at a2
            have HA := hid hA
            have HA2 := hid hA2
            have HR := hid hR
            have M3 := hid m3
            have M4 := hid m4
            have M5 := hid m5
            have M6 := hid m6
            have Ha := hid ha
            clear hA hA2 hR m1 m2 m3 m4 m5 m6 ha
            by_cases hlt : a + t ≤ n
            · have HC := hid (fun (w : World) (hS : St W w (pks g n c Q :: rs')) => symMerge_any n W w (pks g n c Q :: rs') rs' g n c a (a + s) (a + t) Q (by omega) hS Pull.head (by omega) (by omega) hlt (by omega) (asc_eq a1 rfl (by omega)) (asc_eq a2 rfl (by omega)))
              clear a1 a2
              repeat' (first
                | ((with_reducible show wpList _ _ _ (⟨some 40, .binOp .add _ _ _ _, _, _, _, _⟩ :: _) _ _); (refine wplV (.int _ (((a + s : Nat) : Int))) (V.as (V.addI rfl rfl (by omega)) (by omega)) rfl ?_; go_step))
                | ((with_reducible show wpList _ _ _ (⟨some 47, .binOp .mul _ _ _ _, _, _, _, _⟩ :: _) _ _); (refine wplV (.int _ (((t : Nat) : Int))) (V.as (V.mulI rfl rfl (by omega)) (by omega)) rfl ?_; go_step))
                | ((with_reducible show wpList _ _ _ (⟨some 48, .binOp .add _ _ _ _, _, _, _, _⟩ :: _) _ _); (refine wplV (.int _ (((a + t + t : Nat) : Int))) (V.as (V.addI rfl rfl (by omega)) (by omega)) rfl ?_; go_step))
                | ((with_reducible show wpList _ _ _ (⟨_, .call ⟨.value (.func 33), _, _⟩, _, _, _, _⟩ :: _) _ _); refine wpl_call (f := 33) Try.call33 (by kernel_rfl) ?_; refine ⟨_, (HC.out _ hS), ?_⟩; rintro e w ⟨rfl, Z, hZ1, hZ2, hS2⟩; replace hS := hS2; clear hS2; refine ⟨_, rfl, ?_⟩; refine put_move ?_; go_step)
                | ((with_reducible show wpList _ _ _ (⟨_, .move _, _, _, _, _⟩ :: _) _ _); (first | go_big_want | go_step); go_step)
                | ((with_reducible show wpList _ _ _ (⟨_, .assign _, _, _, _, _⟩ :: _) _ _); (first | go_big_want | go_step); go_step)
                | ((with_reducible show wpList _ _ _ (⟨some 35, .binOp .leq _ _ _ _, _, _, _, _⟩ :: _) _ _); (refine wplV _ (V.leq rfl rfl) (by kernel_rfl) ?_; go_step))
                | ((fail_if_success (with_reducible show wpList _ _ _ (_ :: _) _ _)); go_step))
              go_roundg (gk - 1)
              case measure => omega
              case rel =>
                refine ⟨k + 1, a + t, Z, by omega, M3.out.symm, by omega, rfl, by go_num, fun j hj => ?_, fun j hj => ?_, HR.out.trans (hZ2.wide (by omega) (by omega) (by omega) (by omega)), hS⟩
                · by_cases hjk : j = k
                  · subst hjk; rw [← Ha.out]; exact hZ1
                  · have := M5.out j (by omega)
                    exact (HA.out j (by omega)).same fun x k1 k2 => hZ2.out x (by omega)
                · have := M4.out j (by omega)
                  exact (HA2.out j (by omega)).same fun x k1 k2 => hZ2.out x (by omega)
            · have HF : Hid (∀ Z, Asc PkV.w a n Z → Rg a n Q Z → Blks t n Z ∧ Rg 0 n P Z) := fun Z hZ1 hZ2 => ⟨fun j => by
                by_cases h1 : j < k
                · have := M5.out j h1
                  exact ((HA.out j h1).same fun x k1 k2 => hZ2.out x (by omega)).sub (Nat.le_refl _) (Nat.min_le_left _ _)
                · by_cases h2 : j = k
                  · subst h2; rw [← Ha.out]; exact hZ1.sub (Nat.le_refl _) (Nat.min_le_right _ _)
                  · have := M6.out j (by omega)
                    exact asc_void (by omega), HR.out.trans (hZ2.wide (by omega) (by omega) (by omega) (by omega))⟩
              by_cases hm : a + s < n
              · have HC := hid (fun (w : World) (hS : St W w (pks g n c Q :: rs')) => symMerge_any n W w (pks g n c Q :: rs') rs' g n c a (a + s) n Q (by omega) hS Pull.head (by omega) hm (by omega) (by omega) (asc_eq a1 rfl (by omega)) (asc_eq a2 rfl (by omega)))
                clear a1 a2
                repeat' (first
                  | ((with_reducible show wpList _ _ _ (⟨_, .move _, _, _, _, _⟩ :: _) _ _); (first | go_big_want | go_step); go_step)
                  | ((with_reducible show wpList _ _ _ (⟨some 35, .binOp .leq _ _ _ _, _, _, _, _⟩ :: _) _ _); (refine wplV _ (V.leq rfl rfl) (by kernel_rfl) ?_; go_step))
                  | ((fail_if_success (with_reducible show wpList _ _ _ (_ :: _) _ _)); go_step))
                repeat' (first
                  | ((with_reducible show wpList _ _ _ (⟨some 51, .binOp .add _ _ _ _, _, _, _, _⟩ :: _) _ _); (refine wplV (.int _ (((a + s : Nat) : Int))) (V.as (V.addI rfl rfl (by omega)) (by omega)) rfl ?_; go_step))
                  | ((with_reducible show wpList _ _ _ (⟨some 62, .binOp .mul _ _ _ _, _, _, _, _⟩ :: _) _ _); (refine wplV (.int _ (((t : Nat) : Int))) (V.as (V.mulI rfl rfl (by omega)) (by omega)) rfl ?_; go_step))
                  | ((with_reducible show wpList _ _ _ (⟨_, .call ⟨.value (.func 33), _, _⟩, _, _, _, _⟩ :: _) _ _); refine wpl_call (f := 33) Try.call33 (by kernel_rfl) ?_; refine ⟨_, (HC.out _ hS), ?_⟩; rintro e w ⟨rfl, Z, hZ1, hZ2, hS2⟩; replace hS := hS2; clear hS2; refine ⟨_, rfl, ?_⟩; refine put_move ?_; go_step)
                  | ((with_reducible show wpList _ _ _ (⟨_, .move _, _, _, _, _⟩ :: _) _ _); (first | go_big_want | go_step); go_step)
                  | ((with_reducible show wpList _ _ _ (⟨_, .assign _, _, _, _, _⟩ :: _) _ _); (first | go_big_want | go_step); go_step)
                  | ((with_reducible show wpList _ _ _ (⟨some 54, .binOp .lss _ _ _ _, _, _, _, _⟩ :: _) _ _); (refine wplV _ (V.lss rfl rfl) (by kernel_rfl) ?_; go_step))
                  | ((fail_if_success (with_reducible show wpList _ _ _ (_ :: _) _ _)); go_step))
                obtain ⟨b1, b2⟩ := HF.out Z hZ1 hZ2
                go_roundg (n - t)
                case measure => omega
                case rel => exact ⟨t, Z, by omega, by omega, by omega, by go_num, b1, b2, hS⟩
              · obtain ⟨b1, b2⟩ := HF.out Q (asc_eq a1 rfl (by omega)) (Rg.refl _ _ _)
                have B1 := hid b1
                have B2 := hid b2
                clear a1 a2 b1 b2
                repeat' (first
                  | ((with_reducible show wpList _ _ _ (⟨_, .move _, _, _, _, _⟩ :: _) _ _); (first | go_big_want | go_step); go_step)
                  | ((with_reducible show wpList _ _ _ (⟨some 35, .binOp .leq _ _ _ _, _, _, _, _⟩ :: _) _ _); (refine wplV _ (V.leq rfl rfl) (by kernel_rfl) ?_; go_step))
                  | ((fail_if_success (with_reducible show wpList _ _ _ (_ :: _) _ _)); go_step))
                repeat' (first
                  | ((with_reducible show wpList _ _ _ (⟨some 51, .binOp .add _ _ _ _, _, _, _, _⟩ :: _) _ _); (refine wplV (.int _ (((a + s : Nat) : Int))) (V.as (V.addI rfl rfl (by omega)) (by omega)) rfl ?_; go_step))
                  | ((with_reducible show wpList _ _ _ (⟨_, .move _, _, _, _, _⟩ :: _) _ _); (first | go_big_want | go_step); go_step)
                  | ((with_reducible show wpList _ _ _ (⟨_, .assign _, _, _, _, _⟩ :: _) _ _); (first | go_big_want | go_step); go_step)
                  | ((with_reducible show wpList _ _ _ (⟨some 54, .binOp .lss _ _ _ _, _, _, _, _⟩ :: _) _ _); (refine wplV _ (V.lss rfl rfl) (by kernel_rfl) ?_; go_step))
                  | ((fail_if_success (with_reducible show wpList _ _ _ (_ :: _) _ _)); go_step))
                repeat' (first
                  | ((with_reducible show wpList _ _ _ (⟨some 62, .binOp .mul _ _ _ _, _, _, _, _⟩ :: _) _ _); (refine wplV (.int _ (((t : Nat) : Int))) (V.as (V.mulI rfl rfl (by omega)) (by omega)) rfl ?_; go_step))
                  | ((with_reducible show wpList _ _ _ (⟨_, .assign _, _, _, _, _⟩ :: _) _ _); (first | go_big_want | go_step); go_step)
                  | ((fail_if_success (with_reducible show wpList _ _ _ (_ :: _) _ _)); go_step))
                go_roundg (n - t)
                case measure => omega
                case rel => exact ⟨t, Q, by omega, by omega, by omega, by go_num, B1.out, B2.out, hS⟩
        · skip
          repeat' (first
            | ((with_reducible show wpList _ _ _ (⟨_, .move _, _, _, _, _⟩ :: _) _ _); (first | go_big_want | go_step); go_step)
            | ((with_reducible show wpList _ _ _ (⟨some 30, .binOp .lss _ _ _ _, _, _, _, _⟩ :: _) _ _); (refine wplV _ (V.lss rfl rfl) (by kernel_rfl) ?_; go_step))
            | ((fail_if_success (with_reducible show wpList _ _ _ (_ :: _) _ _)); go_step))
          go_end0
          have := HB.out 0
          rw [Nat.zero_mul, Nat.zero_add] at this
          exact ⟨rfl, Q, this.sub (Nat.le_refl _) (by omega), HR.out, hS⟩
theorem sortStable_any (W w0 : World) (rs rs' : List Res) (g n c : Nat) (P : List PkV) (hS : St W w0 rs) (hp : Pull (pks g n c P) rs rs') (hn : n ≤ 100000) :
    Calls Try.prog 19 #[.slice (some ⟨g, 0, none⟩) n c, byW] w0 fun e w => e = .returned (.tuple #[]) ∧ ∃ Q, Q.Perm P ∧ Q.Pairwise (fun a b => a.w ≤ b.w) ∧ St W w (pks g n c Q :: rs') := by
  replace hS := hS.pull hp
  have hPl := own_recs hS Pull.head pkE_len (by decide)
  have HC := hid (fun (w : World) (hS : St W w (pks g n c P :: rs')) => stable_any W w (pks g n c P :: rs') rs' g n c P hS Pull.head hn)
  clear hp
  go_enter Try.func19, Try.ntmps19
  repeat' (first
    | ((with_reducible show wpList _ _ _ (⟨_, .call ⟨.value (.func 27), _, _⟩, _, _, _, _⟩ :: _) _ _); refine wpl_call (f := 27) Try.call27 (by kernel_rfl) ?_; refine ⟨_, (HC.out _ hS), ?_⟩; rintro e w ⟨rfl, Z, hZ1, hZ2, hS2⟩; replace hS := hS2; clear hS2; refine ⟨_, rfl, ?_⟩; refine put_move ?_; go_step)
    | ((with_reducible show wpList _ _ _ (⟨_, .move _, _, _, _, _⟩ :: _) _ _); (first | go_big_want | go_step); go_step)
    | ((with_reducible show wpList _ _ _ (⟨_, .call ⟨.builtin .len, _, _⟩, _, _, _, _⟩ :: _) _ _); (refine wplV _ (V.len Try.underlying49 rfl) (by kernel_rfl) ?_; go_step))
    | ((fail_if_success (with_reducible show wpList _ _ _ (_ :: _) _ _)); go_step))
  go_end0
  rw [← hPl] at hZ1 hZ2
  have hl := hZ2.len
  exact ⟨rfl, Z, hZ2.all, Asc.pair (hl.symm ▸ hZ1), hS⟩
end Go.Proofs.Ytembekkanggciaa
