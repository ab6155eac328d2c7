/- The law SegPure: what its proof needs, part 3. -/
import Derived.Test.YtehbjhocgnfpmaaDoorSegPureZ2
import Derived.Lib.AppendZeros
import Derived.Laws.Cover3
import Derived.WideKeyRuns
/- The walk of symMergeCmpFunc. -/
namespace Go.Proofs.YtehbjhocgnfpmaaDoor
set_option maxRecDepth 100000
open Go.RowKit
set_option linter.unusedVariables false
set_option maxRecDepth 100000 in
set_option maxHeartbeats 8000000 in
theorem symMerge_any (N : Nat) : ∀ (W w0 : World) (rs rs' : List Res) (g n c a m b : Nat) (P : List PkV), b - a ≤ N → St W w0 rs → Pull (pks g n c P) rs rs' → a < m → m < b → b ≤ n → n ≤ 1000000 → Asc PkV.w a m P → Asc PkV.w m b P →
    Calls Tryd.prog 101 #[.slice (some ⟨g, 0, none⟩) n c, .int .i64 a, .int .i64 m, .int .i64 b, byW] w0 fun e w => e = .returned (.tuple #[]) ∧ ∃ Q, Asc PkV.w a b Q ∧ Rg a b P Q ∧ St W w (pks g n c Q :: rs') := by
  induction N with
  | zero => intro W w0 rs rs' g n c a m b P hN; omega
  | succ N ih =>
  intro W w0 rs rs' g n c a m b P hN hS hp ham hmb hb hn hA1 hA2
  replace hS := hS.pull hp
  have he := pkE_len
  have h1e := pkE_one
  have hPl := own_recs hS Pull.head pkE_len (by decide)
  have IH := hid ih
  have HA1 := hid hA1
  have HA2 := hid hA2
  clear ih hA1 hA2
  by_cases h1 : m - a = 1
  · obtain rfl : m = a + 1 := by omega
    go_enter Tryd.func101, Tryd.ntmps101
    repeat' (first
      | ((with_reducible apply gt9 (some 27) (.binOp .sub _ _ _ _)); (refine wplV (.int _ (1)) (V.as (V.subI rfl rfl (by omega)) (by omega)) rfl ?_; go_step)) | ((with_reducible apply gt9 _ (.move _)); (first | go_big_want | go_step); go_step) | ((with_reducible apply gt9 _ (.assign _)); (first | go_big_want | go_step); go_step) | ((with_reducible apply gt9 (some 28) (.binOp .eql 3 _ _ _)); (refine wvv9 (V.eql rfl rfl) ?_; go_step)) | ((fail_if_success with_reducible apply ga9); go_step))
    go_loopg [10, 11] (b - (a + 1)) (fun gk iv jv w => ∃ (i j : Nat), gk + i = j ∧ a + 1 ≤ i ∧ j ≤ b ∧ iv = .int .i64 i ∧ jv = .int .i64 j ∧ (∀ x, a + 1 ≤ x → x < i → wk P x ≤ wk P a) ∧ (∀ x, j ≤ x → x < b → wk P a ≤ wk P x) ∧ St W w (pks g n c P :: rs'))
    case atStart => exact ⟨a + 1, b, by omega, by omega, by omega, rfl, rfl, fun x h1 h2 => by omega, fun x h1 h2 => by omega, hS⟩
    case round =>
      clear hS
      obtain ⟨i, j, hk, hi, hj, rfl, rfl, hlo, hhi, hS⟩ := hrel
      have HLO := hid hlo
      have HHI := hid hhi
      clear hlo hhi
      by_cases hlt : i < j
      · obtain ⟨h, hh⟩ : ∃ h, h = (i + j) / 2 := ⟨_, rfl⟩
        obtain ⟨v, hv⟩ : ∃ v, cmpv (elt P h).w (elt P a).w = v := ⟨_, rfl⟩
        have hv2 := cmpv_lt (elt P h).w (elt P a).w
        rw [hv] at hv2
        have HV := hid hv
        have HV2 := hid hv2
        clear hv hv2
        repeat' (first
          | ((with_reducible apply gt9 (some 36) (.binOp .add _ _ _ _)); (refine wplV (.int _ (((i + j : Nat) : Int))) (V.as (V.addI rfl rfl (by omega)) (by omega)) rfl ?_; go_step)) | ((with_reducible apply gt9 (some 38) (.binOp .shr _ _ _ _)); (refine wplV (.int _ (((h : Nat) : Int))) (V.as (V.shr rfl rfl isn9 (by omega) rfl) (by omega)) rfl ?_; go_step)) | ((with_reducible apply gt9 _ (.move _)); (first | go_big_want | go_step); go_step) | ((with_reducible apply gt9 _ (.assign _)); (first | go_big_want | go_step); go_step) | ((with_reducible apply gt9 (some 33) (.binOp .lss _ _ _ _)); (refine wvv9 (V.lss rfl rfl) ?_; go_step)) | ((with_reducible apply gt9 (some 37) (.convert 3 147 _)); (refine wvv9 (V.convI (by rw [Tryd.underlying3]; rfl) Tryd.underlying147 rfl (IntWalk.u64_in _ (by omega))) ?_; go_step)) | ((with_reducible apply gt9 (some 39) (.convert 147 3 _)); (refine wvv9 (V.convI (by rw [Tryd.underlying147]; rfl) Tryd.underlying3 rfl (IntWalk.i64_in _ (by omega))) ?_; go_step)) | ((fail_if_success with_reducible apply ga9); go_step))
        refine drawn_lit [9] (fun w => St W w (pks g n c P :: rs')) (by kernel_rfl) ?_
        replace hS := hS.drew
        focus
          refine takeM 0 _ al9 (by kernel_rfl) (by kernel_rfl) (by kernel_rfl) (by exact fun _ _ _ _ h => h) rfl ?_
          go_step
          refine takeM 1 _ al9 (by kernel_rfl) (by kernel_rfl) (by kernel_rfl) (by exact fun _ _ _ _ h => h) rfl ?_
          go_step
          refine takeM 2 _ al9 (by kernel_rfl) (by kernel_rfl) (by kernel_rfl) (by exact fun _ _ _ _ h => h) rfl ?_
          go_step
          (refine takeV 3 _ al9 (by kernel_rfl) (by kernel_rfl) (by kernel_rfl) (by exact fun _ _ _ _ h => h) (V.indexSl Tryd.underlying134 isz133 rfl rfl isn9 (by omega) rfl nq9) rfl ?_)
          go_step
          apply takeS 4 al9 (by kernel_rfl) (by kernel_rfl) (by kernel_rfl) (by exact fun _ _ _ _ h => h) [9, 10] (by kernel_rfl) (hS.sub sb9)
          case hfr => intro w hS; ((refine wpl (by kernel_rfl) ?_; apply wp_loadE hS 133 _ rfl _ _ rfl 2 (row_of rfl) _ _ _ _ _; (case hp => exact pl9); (case inst => infer_instance); (case he => with_reducible assumption); (case hq => exact rfl); (case hj => omega); refine put_move ?_; go_step)); refine wpList_nil ?_; exact ⟨rfl, rfl⟩
          case hd => rfl
          refine takeM 5 _ al9 (by kernel_rfl) (by kernel_rfl) (by kernel_rfl) (by exact fun _ _ _ _ h => h) rfl ?_
          go_step
          refine takeM 6 _ al9 (by kernel_rfl) (by kernel_rfl) (by kernel_rfl) (by exact fun _ _ _ _ h => h) rfl ?_
          go_step
          (refine takeV 7 _ al9 (by kernel_rfl) (by kernel_rfl) (by kernel_rfl) (by exact fun _ _ _ _ h => h) (V.indexSl Tryd.underlying134 isz133 rfl rfl isn9 (by omega) rfl nq9) rfl ?_)
          go_step
          apply takeS 8 al9 (by kernel_rfl) (by kernel_rfl) (by kernel_rfl) (by exact fun _ _ _ _ h => h) [9, 10] (by kernel_rfl) (hS.sub sb9)
          case hfr => intro w hS; ((refine wpl (by kernel_rfl) ?_; apply wp_loadE hS 133 _ rfl _ _ rfl 2 (row_of rfl) _ _ _ _ _; (case hp => exact pl9); (case inst => infer_instance); (case he => with_reducible assumption); (case hq => exact rfl); (case hj => omega); refine put_move ?_; go_step)); refine wpList_nil ?_; exact ⟨rfl, rfl⟩
          case hd => rfl
          refine branch1 9 al9 rfl (by kernel_rfl) ?_
          refine wp_callV (f := 67) rfl rfl Tryd.call67 (byWeight_any _ (elt P h) (elt P a)) ?_; rintro e w ⟨rfl, hE⟩; replace hS := hS.ext hE; clear hE; rw [HV.out]; refine ⟨_, rfl, ?_⟩
          refine ⟨fun h => absurd (by decide) h, ?_⟩
          refine drawn_move ?_
          go_step
          (refine takeV 10 _ al9 (by kernel_rfl) (by kernel_rfl) (by kernel_rfl) (by exact fun _ _ _ _ h => h) (V.lss rfl rfl) rfl ?_)
          go_step
          refine drawn_done (by kernel_rfl) ?_ _
        by_cases hc : v < 0
        · skip
          repeat' (first
            | ((with_reducible apply gt9 (some 52) (.binOp .add _ _ _ _)); (refine wplV (.int _ (((h + 1 : Nat) : Int))) (V.as (V.addI rfl rfl (by omega)) (by omega)) rfl ?_; go_step)) | ((with_reducible apply gt9 _ (.move _)); (first | go_big_want | go_step); go_step) | ((with_reducible apply gt9 _ (.assign _)); (first | go_big_want | go_step); go_step) | ((fail_if_success with_reducible apply ga9); go_step))
          go_roundg (j - (h + 1))
          case measure => omega
          case rel =>
            refine ⟨h + 1, j, by omega, by omega, by omega, by go_num, rfl, fun x k1 k2 => ?_, HHI.out, hS⟩
            have := HA2.out x h k1 (by omega) (by omega)
            have := HV2.out.1 hc
            show (elt P x).w ≤ (elt P a).w
            omega
        · skip
          repeat' (first
            | ((with_reducible apply gt9 _ (.move _)); (first | go_big_want | go_step); go_step) | ((with_reducible apply gt9 _ (.assign _)); (first | go_big_want | go_step); go_step) | ((fail_if_success with_reducible apply ga9); go_step))
          go_roundg (h - i)
          case measure => omega
          case rel =>
            refine ⟨i, h, by omega, by omega, by omega, rfl, by go_num, HLO.out, fun x k1 k2 => ?_, hS⟩
            have := HA2.out h x (by omega) k1 (by omega)
            have := HV2.out
            show (elt P a).w ≤ (elt P x).w
            omega
      · obtain rfl : i = j := by omega
        obtain ⟨p, rfl⟩ : ∃ p, i = p + 1 := ⟨i - 1, by omega⟩
        repeat' (first
          | ((with_reducible apply gt9 _ (.move _)); (first | go_big_want | go_step); go_step) | ((with_reducible apply gt9 _ (.assign _)); (first | go_big_want | go_step); go_step) | ((with_reducible apply gt9 (some 33) (.binOp .lss _ _ _ _)); (refine wvv9 (V.lss rfl rfl) ?_; go_step)) | ((fail_if_success with_reducible apply ga9); go_step))
        repeat' (first
          | ((fail_if_success with_reducible apply ga9); go_step))
        go_loopg [13] (p - a) (fun gk kv w => ∃ (k : Nat) (Q : List PkV), gk + k = p ∧ a ≤ k ∧ kv = .int .i64 k ∧ Upw a k P Q ∧ Rg a b P Q ∧ St W w (pks g n c Q :: rs'))
        case atStart => exact ⟨a, P, by omega, by omega, rfl, Upw.refl a P, Rg.refl a b P, hS⟩
        case round =>
          clear hS
          obtain ⟨k, Q, hk2, hak, rfl, hU, hR, hS⟩ := hrel
          have HU := hid hU
          have HR := hid hR
          clear hU hR
          by_cases hlt2 : k < p
          · skip
            repeat' (first
              | ((with_reducible apply gt9 (some 57) (.binOp .sub _ _ _ _)); (refine wplV (.int _ (((p : Nat) : Int))) (V.as (V.subI rfl rfl (by omega)) (by omega)) rfl ?_; go_step)) | ((with_reducible apply gt9 _ (.move _)); (first | go_big_want | go_step); go_step) | ((with_reducible apply gt9 (some 58) (.binOp .lss _ _ _ _)); (refine wvv9 (V.lss rfl rfl) ?_; go_step)) | ((fail_if_success with_reducible apply ga9); go_step))
            refine drawn_lit [15, 17] (fun w => St W w (pks g n c Q :: rs')) (by kernel_rfl) ?_
            replace hS := hS.drew
            focus
              refine takeM 0 _ al9 (by kernel_rfl) (by kernel_rfl) (by kernel_rfl) (by exact fun _ _ _ _ h => h) rfl ?_
              go_step
              refine takeM 1 _ al9 (by kernel_rfl) (by kernel_rfl) (by kernel_rfl) (by exact fun _ _ _ _ h => h) rfl ?_
              go_step
              refine takeM 2 _ al9 (by kernel_rfl) (by kernel_rfl) (by kernel_rfl) (by exact fun _ _ _ _ h => h) rfl ?_
              go_step
              refine takeM 3 _ al9 (by kernel_rfl) (by kernel_rfl) (by kernel_rfl) (by exact fun _ _ _ _ h => h) rfl ?_
              go_step
              (refine takeV 4 (.int _ (((k + 1 : Nat) : Int))) al9 (by kernel_rfl) (by kernel_rfl) (by kernel_rfl) (by exact fun _ _ _ _ h => h) (V.as (V.addI rfl rfl (by omega)) (by omega)) rfl ?_)
              go_step
              refine takeM 5 _ al9 (by kernel_rfl) (by kernel_rfl) (by kernel_rfl) (by exact fun _ _ _ _ h => h) rfl ?_
              go_step
              refine takeM 6 _ al9 (by kernel_rfl) (by kernel_rfl) (by kernel_rfl) (by exact fun _ _ _ _ h => h) rfl ?_
              go_step
              (refine takeV 7 (.int _ (((k + 1 : Nat) : Int))) al9 (by kernel_rfl) (by kernel_rfl) (by kernel_rfl) (by exact fun _ _ _ _ h => h) (V.as (V.addI rfl rfl (by omega)) (by omega)) rfl ?_)
              go_step
              (refine takeV 8 _ al9 (by kernel_rfl) (by kernel_rfl) (by kernel_rfl) (by exact fun _ _ _ _ h => h) (V.indexSl Tryd.underlying134 isz133 rfl rfl isn9 (by omega) rfl nq9) rfl ?_)
              go_step
              apply takeS 9 al9 (by kernel_rfl) (by kernel_rfl) (by kernel_rfl) (by exact fun _ _ _ _ h => h) [14, 15, 16, 17] (by kernel_rfl) (hS.sub sb9)
              case hfr => intro w hS; ((refine wpl (by kernel_rfl) ?_; apply wp_loadE hS 133 _ rfl _ _ rfl 2 (row_of rfl) _ _ _ _ _; (case hp => exact pl9); (case inst => infer_instance); (case he => with_reducible assumption); (case hq => exact rfl); (case hj => omega); refine put_move ?_; go_step)); refine wpList_nil ?_; exact ⟨rfl, rfl⟩
              case hd => rfl
              refine takeM 10 _ al9 (by kernel_rfl) (by kernel_rfl) (by kernel_rfl) (by exact fun _ _ _ _ h => h) rfl ?_
              go_step
              refine takeM 11 _ al9 (by kernel_rfl) (by kernel_rfl) (by kernel_rfl) (by exact fun _ _ _ _ h => h) rfl ?_
              go_step
              (refine takeV 12 _ al9 (by kernel_rfl) (by kernel_rfl) (by kernel_rfl) (by exact fun _ _ _ _ h => h) (V.indexSl Tryd.underlying134 isz133 rfl rfl isn9 (by omega) rfl nq9) rfl ?_)
              go_step
              apply takeS 13 al9 (by kernel_rfl) (by kernel_rfl) (by kernel_rfl) (by exact fun _ _ _ _ h => h) [14, 15, 16, 17] (by kernel_rfl) (hS.sub sb9)
              case hfr => intro w hS; ((refine wpl (by kernel_rfl) ?_; apply wp_loadE hS 133 _ rfl _ _ rfl 2 (row_of rfl) _ _ _ _ _; (case hp => exact pl9); (case inst => infer_instance); (case he => with_reducible assumption); (case hq => exact rfl); (case hj => omega); refine put_move ?_; go_step)); refine wpList_nil ?_; exact ⟨rfl, rfl⟩
              case hd => rfl
              (refine takeV 14 _ al9 (by kernel_rfl) (by kernel_rfl) (by kernel_rfl) (by exact fun _ _ _ _ h => h) (V.indexSl Tryd.underlying134 isz133 rfl rfl isn9 (by omega) rfl nq9) rfl ?_)
              go_step
              refine branch1 15 al9 rfl (by kernel_rfl) ?_
              (apply wp_storeE hS 133 _ _ rfl _ _ rfl 2 (row_of rfl) _ _ _ _ _; (case hp => exact pl9); (case inst => infer_instance); (case he => with_reducible assumption); (case hone => with_reducible assumption); (case hq => exact rfl); (case hj => omega); (case hy => exact rfl); (case hd => exact rfl); clear hS; intro w hS)
              refine ⟨fun h => absurd (by decide) h, ?_⟩
              (refine takeV 16 _ al9 (by kernel_rfl) (by kernel_rfl) (by kernel_rfl) (by exact fun _ _ _ _ h => h) (V.indexSl Tryd.underlying134 isz133 rfl rfl isn9 (by omega) rfl nq9) rfl ?_)
              go_step
              refine branch1 17 al9 rfl (by kernel_rfl) ?_
              (apply wp_storeE hS 133 _ _ rfl _ _ rfl 2 (row_of rfl) _ _ _ _ _; (case hp => exact pl9); (case inst => infer_instance); (case he => with_reducible assumption); (case hone => with_reducible assumption); (case hq => exact rfl); (case hj => omega); (case hy => exact rfl); (case hd => exact rfl); clear hS; intro w hS)
              refine ⟨fun h => absurd (by decide) h, ?_⟩
              refine drawn_done (by kernel_rfl) ?_ _
            repeat' (first
              | ((with_reducible apply gt9 (some 60) (.binOp .add _ _ _ _)); (refine wplV (.int _ (((k + 1 : Nat) : Int))) (V.as (V.addI rfl rfl (by omega)) (by omega)) rfl ?_; go_step)) | ((with_reducible apply gt9 _ (.move _)); (first | go_big_want | go_step); go_step) | ((with_reducible apply gt9 _ (.assign _)); (first | go_big_want | go_step); go_step) | ((fail_if_success with_reducible apply ga9); go_step))
            go_roundg (gk - 1)
            case measure => omega
            case rel => exact ⟨k + 1, swp Q k (k + 1), by omega, by omega, by go_num, HU.out.step (by omega) (by omega), HR.out.trans (swp_mid _ _ _ _ _ (by omega) (by omega) (by omega) (by omega) (by rw [HR.out.len]; omega)), hS⟩
          · obtain rfl : k = p := by omega
            repeat' (first
              | ((with_reducible apply gt9 (some 57) (.binOp .sub _ _ _ _)); (refine wplV (.int _ (((k : Nat) : Int))) (V.as (V.subI rfl rfl (by omega)) (by omega)) rfl ?_; go_step)) | ((with_reducible apply gt9 _ (.move _)); (first | go_big_want | go_step); go_step) | ((with_reducible apply gt9 (some 58) (.binOp .lss _ _ _ _)); (refine wvv9 (V.lss rfl rfl) ?_; go_step)) | ((fail_if_success with_reducible apply ga9); go_step))
            refine bodyPost_ret (results_none rfl _ _ _) rfl ?_
            refine ⟨rfl, Q, HU.out.asc HA2.out hak (by omega) (fun h => HLO.out k (by omega) (by omega)) (fun h => HHI.out (k + 1) (Nat.le_refl _) h), HR.out, hS⟩
  · by_cases h2 : b - m = 1
    · obtain rfl : b = m + 1 := by omega
      go_enter Tryd.func101, Tryd.ntmps101
      repeat' (first
        | ((with_reducible apply gt9 (some 27) (.binOp .sub _ _ _ _)); (refine wplV (.int _ (((m - a : Nat) : Int))) (V.as (V.subI rfl rfl (by omega)) (by omega)) rfl ?_; go_step)) | ((with_reducible apply gt9 _ (.move _)); (first | go_big_want | go_step); go_step) | ((with_reducible apply gt9 (some 28) (.binOp .eql 3 _ _ _)); (refine wvv9 (V.eql rfl rfl) ?_; go_step)) | ((fail_if_success with_reducible apply ga9); go_step))
      repeat' (first
        | ((with_reducible apply gt9 (some 79) (.binOp .sub _ _ _ _)); (refine wplV (.int _ (1)) (V.as (V.subI rfl rfl (by omega)) (by omega)) rfl ?_; go_step)) | ((with_reducible apply gt9 _ (.move _)); (first | go_big_want | go_step); go_step) | ((with_reducible apply gt9 _ (.assign _)); (first | go_big_want | go_step); go_step) | ((with_reducible apply gt9 (some 80) (.binOp .eql 3 _ _ _)); (refine wvv9 (V.eql rfl rfl) ?_; go_step)) | ((fail_if_success with_reducible apply ga9); go_step))
      go_loopg [14, 15] (m - a) (fun gk iv jv w => ∃ (i j : Nat), gk + i = j ∧ a ≤ i ∧ j ≤ m ∧ iv = .int .i64 i ∧ jv = .int .i64 j ∧ (∀ x, a ≤ x → x < i → wk P x ≤ wk P m) ∧ (∀ x, j ≤ x → x < m → wk P m ≤ wk P x) ∧ St W w (pks g n c P :: rs'))
      case atStart => exact ⟨a, m, by omega, by omega, by omega, rfl, rfl, fun x h1 h2 => by omega, fun x h1 h2 => by omega, hS⟩
      case round =>
        clear hS
        obtain ⟨i, j, hk, hi, hj, rfl, rfl, hlo, hhi, hS⟩ := hrel
        have HLO := hid hlo
        have HHI := hid hhi
        clear hlo hhi
        by_cases hlt : i < j
        · obtain ⟨h, hh⟩ : ∃ h, h = (i + j) / 2 := ⟨_, rfl⟩
          obtain ⟨v, hv⟩ : ∃ v, cmpv (elt P m).w (elt P h).w = v := ⟨_, rfl⟩
          have hv2 := cmpv_lt (elt P m).w (elt P h).w
          rw [hv] at hv2
          have HV := hid hv
          have HV2 := hid hv2
          clear hv hv2
          repeat' (first
            | ((with_reducible apply gt9 (some 88) (.binOp .add _ _ _ _)); (refine wplV (.int _ (((i + j : Nat) : Int))) (V.as (V.addI rfl rfl (by omega)) (by omega)) rfl ?_; go_step)) | ((with_reducible apply gt9 (some 90) (.binOp .shr _ _ _ _)); (refine wplV (.int _ (((h : Nat) : Int))) (V.as (V.shr rfl rfl isn9 (by omega) rfl) (by omega)) rfl ?_; go_step)) | ((with_reducible apply gt9 _ (.move _)); (first | go_big_want | go_step); go_step) | ((with_reducible apply gt9 _ (.assign _)); (first | go_big_want | go_step); go_step) | ((with_reducible apply gt9 (some 85) (.binOp .lss _ _ _ _)); (refine wvv9 (V.lss rfl rfl) ?_; go_step)) | ((with_reducible apply gt9 (some 89) (.convert 3 147 _)); (refine wvv9 (V.convI (by rw [Tryd.underlying3]; rfl) Tryd.underlying147 rfl (IntWalk.u64_in _ (by omega))) ?_; go_step)) | ((with_reducible apply gt9 (some 91) (.convert 147 3 _)); (refine wvv9 (V.convI (by rw [Tryd.underlying147]; rfl) Tryd.underlying3 rfl (IntWalk.i64_in _ (by omega))) ?_; go_step)) | ((fail_if_success with_reducible apply ga9); go_step))
          refine drawn_lit [9] (fun w => St W w (pks g n c P :: rs')) (by kernel_rfl) ?_
          replace hS := hS.drew
          focus
            refine takeM 0 _ al9 (by kernel_rfl) (by kernel_rfl) (by kernel_rfl) (by exact fun _ _ _ _ h => h) rfl ?_
            go_step
            refine takeM 1 _ al9 (by kernel_rfl) (by kernel_rfl) (by kernel_rfl) (by exact fun _ _ _ _ h => h) rfl ?_
            go_step
            refine takeM 2 _ al9 (by kernel_rfl) (by kernel_rfl) (by kernel_rfl) (by exact fun _ _ _ _ h => h) rfl ?_
            go_step
            (refine takeV 3 _ al9 (by kernel_rfl) (by kernel_rfl) (by kernel_rfl) (by exact fun _ _ _ _ h => h) (V.indexSl Tryd.underlying134 isz133 rfl rfl isn9 (by omega) rfl nq9) rfl ?_)
            go_step
            apply takeS 4 al9 (by kernel_rfl) (by kernel_rfl) (by kernel_rfl) (by exact fun _ _ _ _ h => h) [9, 10, 11] (by kernel_rfl) (hS.sub sb9)
            case hfr => intro w hS; ((refine wpl (by kernel_rfl) ?_; apply wp_loadE hS 133 _ rfl _ _ rfl 2 (row_of rfl) _ _ _ _ _; (case hp => exact pl9); (case inst => infer_instance); (case he => with_reducible assumption); (case hq => exact rfl); (case hj => omega); refine put_move ?_; go_step)); refine wpList_nil ?_; exact ⟨rfl, rfl⟩
            case hd => rfl
            refine takeM 5 _ al9 (by kernel_rfl) (by kernel_rfl) (by kernel_rfl) (by exact fun _ _ _ _ h => h) rfl ?_
            go_step
            refine takeM 6 _ al9 (by kernel_rfl) (by kernel_rfl) (by kernel_rfl) (by exact fun _ _ _ _ h => h) rfl ?_
            go_step
            (refine takeV 7 _ al9 (by kernel_rfl) (by kernel_rfl) (by kernel_rfl) (by exact fun _ _ _ _ h => h) (V.indexSl Tryd.underlying134 isz133 rfl rfl isn9 (by omega) rfl nq9) rfl ?_)
            go_step
            apply takeS 8 al9 (by kernel_rfl) (by kernel_rfl) (by kernel_rfl) (by exact fun _ _ _ _ h => h) [9, 10, 11] (by kernel_rfl) (hS.sub sb9)
            case hfr => intro w hS; ((refine wpl (by kernel_rfl) ?_; apply wp_loadE hS 133 _ rfl _ _ rfl 2 (row_of rfl) _ _ _ _ _; (case hp => exact pl9); (case inst => infer_instance); (case he => with_reducible assumption); (case hq => exact rfl); (case hj => omega); refine put_move ?_; go_step)); refine wpList_nil ?_; exact ⟨rfl, rfl⟩
            case hd => rfl
            refine branch1 9 al9 rfl (by kernel_rfl) ?_
            refine wp_callV (f := 67) rfl rfl Tryd.call67 (byWeight_any _ (elt P m) (elt P h)) ?_; rintro e w ⟨rfl, hE⟩; replace hS := hS.ext hE; clear hE; rw [HV.out]; refine ⟨_, rfl, ?_⟩
            refine ⟨fun h => absurd (by decide) h, ?_⟩
            refine drawn_move ?_
            go_step
            (refine takeV 10 _ al9 (by kernel_rfl) (by kernel_rfl) (by kernel_rfl) (by exact fun _ _ _ _ h => h) (V.lss rfl rfl) rfl ?_)
            go_step
            (refine takeV 11 _ al9 (by kernel_rfl) (by kernel_rfl) (by kernel_rfl) (by exact fun _ _ _ _ h => h) (V.notD rfl) rfl ?_)
            go_step
            refine drawn_done (by kernel_rfl) ?_ _
          by_cases hc : v < 0
          · skip
            repeat' (first
              | ((with_reducible apply gt9 _ (.move _)); (first | go_big_want | go_step); go_step) | ((with_reducible apply gt9 _ (.assign _)); (first | go_big_want | go_step); go_step) | ((fail_if_success with_reducible apply ga9); go_step))
            go_roundg (h - i)
            case measure => omega
            case rel =>
              refine ⟨i, h, by omega, by omega, by omega, rfl, by go_num, HLO.out, fun x k1 k2 => ?_, hS⟩
              have := HA1.out h x (by omega) k1 (by omega)
              have := HV2.out.1 hc
              show (elt P m).w ≤ (elt P x).w
              omega
          · skip
            repeat' (first
              | ((with_reducible apply gt9 (some 105) (.binOp .add _ _ _ _)); (refine wplV (.int _ (((h + 1 : Nat) : Int))) (V.as (V.addI rfl rfl (by omega)) (by omega)) rfl ?_; go_step)) | ((with_reducible apply gt9 _ (.move _)); (first | go_big_want | go_step); go_step) | ((with_reducible apply gt9 _ (.assign _)); (first | go_big_want | go_step); go_step) | ((fail_if_success with_reducible apply ga9); go_step))
            go_roundg (j - (h + 1))
            case measure => omega
            case rel =>
              refine ⟨h + 1, j, by omega, by omega, by omega, by go_num, rfl, fun x k1 k2 => ?_, HHI.out, hS⟩
              have := HA1.out x h k1 (by omega) (by omega)
              have := HV2.out
              show (elt P x).w ≤ (elt P m).w
              omega
        · obtain rfl : i = j := by omega
          repeat' (first
            | ((with_reducible apply gt9 _ (.move _)); (first | go_big_want | go_step); go_step) | ((with_reducible apply gt9 _ (.assign _)); (first | go_big_want | go_step); go_step) | ((with_reducible apply gt9 (some 85) (.binOp .lss _ _ _ _)); (refine wvv9 (V.lss rfl rfl) ?_; go_step)) | ((fail_if_success with_reducible apply ga9); go_step))
          repeat' (first
            | ((fail_if_success with_reducible apply ga9); go_step))
          go_loopg [17] (m - i) (fun gk kv w => ∃ (k : Nat) (Q : List PkV), gk + i = k ∧ k ≤ m ∧ kv = .int .i64 k ∧ Dn m k P Q ∧ Rg a (m + 1) P Q ∧ St W w (pks g n c Q :: rs'))
          case atStart => exact ⟨m, P, by omega, by omega, rfl, Dn.refl m P, Rg.refl a _ P, hS⟩
          case round =>
            clear hS
            obtain ⟨k, Q, hk2, hkm, rfl, hU, hR, hS⟩ := hrel
            have HU := hid hU
            have HR := hid hR
            clear hU hR
            by_cases hlt2 : i < k
            · obtain ⟨q, rfl⟩ : ∃ q, k = q + 1 := ⟨k - 1, by omega⟩
              repeat' (first
                | ((with_reducible apply gt9 _ (.move _)); (first | go_big_want | go_step); go_step) | ((with_reducible apply gt9 (some 110) (.binOp .gtr _ _ _ _)); (refine wvv9 (V.gtr rfl rfl) ?_; go_step)) | ((fail_if_success with_reducible apply ga9); go_step))
              refine drawn_lit [15, 17] (fun w => St W w (pks g n c Q :: rs')) (by kernel_rfl) ?_
              replace hS := hS.drew
              focus
                refine takeM 0 _ al9 (by kernel_rfl) (by kernel_rfl) (by kernel_rfl) (by exact fun _ _ _ _ h => h) rfl ?_
                go_step
                refine takeM 1 _ al9 (by kernel_rfl) (by kernel_rfl) (by kernel_rfl) (by exact fun _ _ _ _ h => h) rfl ?_
                go_step
                refine takeM 2 _ al9 (by kernel_rfl) (by kernel_rfl) (by kernel_rfl) (by exact fun _ _ _ _ h => h) rfl ?_
                go_step
                refine takeM 3 _ al9 (by kernel_rfl) (by kernel_rfl) (by kernel_rfl) (by exact fun _ _ _ _ h => h) rfl ?_
                go_step
                (refine takeV 4 (.int _ (((q : Nat) : Int))) al9 (by kernel_rfl) (by kernel_rfl) (by kernel_rfl) (by exact fun _ _ _ _ h => h) (V.as (V.subI rfl rfl (by omega)) (by omega)) rfl ?_)
                go_step
                refine takeM 5 _ al9 (by kernel_rfl) (by kernel_rfl) (by kernel_rfl) (by exact fun _ _ _ _ h => h) rfl ?_
                go_step
                refine takeM 6 _ al9 (by kernel_rfl) (by kernel_rfl) (by kernel_rfl) (by exact fun _ _ _ _ h => h) rfl ?_
                go_step
                (refine takeV 7 (.int _ (((q : Nat) : Int))) al9 (by kernel_rfl) (by kernel_rfl) (by kernel_rfl) (by exact fun _ _ _ _ h => h) (V.as (V.subI rfl rfl (by omega)) (by omega)) rfl ?_)
                go_step
                (refine takeV 8 _ al9 (by kernel_rfl) (by kernel_rfl) (by kernel_rfl) (by exact fun _ _ _ _ h => h) (V.indexSl Tryd.underlying134 isz133 rfl rfl isn9 (by omega) rfl nq9) rfl ?_)
                go_step
                apply takeS 9 al9 (by kernel_rfl) (by kernel_rfl) (by kernel_rfl) (by exact fun _ _ _ _ h => h) [14, 15, 16, 17] (by kernel_rfl) (hS.sub sb9)
                case hfr => intro w hS; ((refine wpl (by kernel_rfl) ?_; apply wp_loadE hS 133 _ rfl _ _ rfl 2 (row_of rfl) _ _ _ _ _; (case hp => exact pl9); (case inst => infer_instance); (case he => with_reducible assumption); (case hq => exact rfl); (case hj => omega); refine put_move ?_; go_step)); refine wpList_nil ?_; exact ⟨rfl, rfl⟩
                case hd => rfl
                refine takeM 10 _ al9 (by kernel_rfl) (by kernel_rfl) (by kernel_rfl) (by exact fun _ _ _ _ h => h) rfl ?_
                go_step
                refine takeM 11 _ al9 (by kernel_rfl) (by kernel_rfl) (by kernel_rfl) (by exact fun _ _ _ _ h => h) rfl ?_
                go_step
                (refine takeV 12 _ al9 (by kernel_rfl) (by kernel_rfl) (by kernel_rfl) (by exact fun _ _ _ _ h => h) (V.indexSl Tryd.underlying134 isz133 rfl rfl isn9 (by omega) rfl nq9) rfl ?_)
                go_step
                apply takeS 13 al9 (by kernel_rfl) (by kernel_rfl) (by kernel_rfl) (by exact fun _ _ _ _ h => h) [14, 15, 16, 17] (by kernel_rfl) (hS.sub sb9)
                case hfr => intro w hS; ((refine wpl (by kernel_rfl) ?_; apply wp_loadE hS 133 _ rfl _ _ rfl 2 (row_of rfl) _ _ _ _ _; (case hp => exact pl9); (case inst => infer_instance); (case he => with_reducible assumption); (case hq => exact rfl); (case hj => omega); refine put_move ?_; go_step)); refine wpList_nil ?_; exact ⟨rfl, rfl⟩
                case hd => rfl
                (refine takeV 14 _ al9 (by kernel_rfl) (by kernel_rfl) (by kernel_rfl) (by exact fun _ _ _ _ h => h) (V.indexSl Tryd.underlying134 isz133 rfl rfl isn9 (by omega) rfl nq9) rfl ?_)
                go_step
                refine branch1 15 al9 rfl (by kernel_rfl) ?_
                (apply wp_storeE hS 133 _ _ rfl _ _ rfl 2 (row_of rfl) _ _ _ _ _; (case hp => exact pl9); (case inst => infer_instance); (case he => with_reducible assumption); (case hone => with_reducible assumption); (case hq => exact rfl); (case hj => omega); (case hy => exact rfl); (case hd => exact rfl); clear hS; intro w hS)
                refine ⟨fun h => absurd (by decide) h, ?_⟩
                (refine takeV 16 _ al9 (by kernel_rfl) (by kernel_rfl) (by kernel_rfl) (by exact fun _ _ _ _ h => h) (V.indexSl Tryd.underlying134 isz133 rfl rfl isn9 (by omega) rfl nq9) rfl ?_)
                go_step
                refine branch1 17 al9 rfl (by kernel_rfl) ?_
                (apply wp_storeE hS 133 _ _ rfl _ _ rfl 2 (row_of rfl) _ _ _ _ _; (case hp => exact pl9); (case inst => infer_instance); (case he => with_reducible assumption); (case hone => with_reducible assumption); (case hq => exact rfl); (case hj => omega); (case hy => exact rfl); (case hd => exact rfl); clear hS; intro w hS)
                refine ⟨fun h => absurd (by decide) h, ?_⟩
                refine drawn_done (by kernel_rfl) ?_ _
              repeat' (first
                | ((with_reducible apply gt9 (some 112) (.binOp .sub _ _ _ _)); (refine wplV (.int _ (((q : Nat) : Int))) (V.as (V.subI rfl rfl (by omega)) (by omega)) rfl ?_; go_step)) | ((with_reducible apply gt9 _ (.move _)); (first | go_big_want | go_step); go_step) | ((with_reducible apply gt9 _ (.assign _)); (first | go_big_want | go_step); go_step) | ((fail_if_success with_reducible apply ga9); go_step))
              go_roundg (gk - 1)
              case measure => omega
              case rel => exact ⟨q, swp Q (q + 1) q, by omega, by omega, by go_num, HU.out.step (by omega) (by omega) (by omega), HR.out.trans (swp_mid _ _ _ _ _ (by omega) (by omega) (by omega) (by omega) (by rw [HR.out.len]; omega)), hS⟩
            · obtain rfl : k = i := by omega
              repeat' (first
                | ((with_reducible apply gt9 _ (.move _)); (first | go_big_want | go_step); go_step) | ((with_reducible apply gt9 (some 110) (.binOp .gtr _ _ _ _)); (refine wvv9 (V.gtr rfl rfl) ?_; go_step)) | ((fail_if_success with_reducible apply ga9); go_step))
              refine bodyPost_ret (results_none rfl _ _ _) rfl ?_
              refine ⟨rfl, Q, HU.out.asc HA1.out hi (by omega) (fun h => HLO.out (k - 1) (by omega) (by omega)) (fun h => HHI.out k (Nat.le_refl _) h), HR.out, hS⟩
    · obtain ⟨mid, hmid⟩ : ∃ mid, mid = (a + b) / 2 := ⟨_, rfl⟩
      obtain ⟨T, hT⟩ : ∃ T, T = mid + m := ⟨_, rfl⟩
      obtain ⟨s0, hs0⟩ : ∃ s0, s0 = if mid < m then T - b else a := ⟨_, rfl⟩
      obtain ⟨r0, hr0⟩ : ∃ r0, r0 = if mid < m then mid else m := ⟨_, rfl⟩
      have hs0a : mid < m → s0 = T - b := fun h => by rw [hs0, if_pos h]
      have hs0b : ¬ mid < m → s0 = a := fun h => by rw [hs0, if_neg h]
      have hr0a : mid < m → r0 = mid := fun h => by rw [hr0, if_pos h]
      have hr0b : ¬ mid < m → r0 = m := fun h => by rw [hr0, if_neg h]
      clear hs0 hr0
      have hF : s0 ≤ r0 ∧ a ≤ s0 ∧ r0 ≤ mid ∧ r0 ≤ m ∧ (∀ st, s0 ≤ st → st ≤ r0 → m ≤ T - st ∧ T - st ≤ b ∧ st ≤ T) := by
        by_cases hc : mid < m
        · have := hs0a hc; have := hr0a hc
          exact ⟨by omega, by omega, by omega, by omega, fun st k1 k2 => by omega⟩
        · have := hs0b hc; have := hr0b hc
          exact ⟨by omega, by omega, by omega, by omega, fun st k1 k2 => by omega⟩
      obtain ⟨f1, f2, f3, f4, f5⟩ := hF
      have F5 := hid f5
      clear f5
      have HS0a := hid hs0a
      have HS0b := hid hs0b
      have HR0a := hid hr0a
      have HR0b := hid hr0b
      clear hs0a hs0b hr0a hr0b
      obtain ⟨d1, hd1⟩ : ∃ d, d = m - a := ⟨_, rfl⟩
      obtain ⟨d2, hd2⟩ : ∃ d, d = b - m := ⟨_, rfl⟩
      go_enter Tryd.func101, Tryd.ntmps101
      repeat' (first
        | ((with_reducible apply gt9 (some 27) (.binOp .sub _ _ _ _)); (refine wplV (.int _ (((d1 : Nat) : Int))) (V.as (V.subI rfl rfl (by omega)) (by omega)) rfl ?_; go_step)) | ((with_reducible apply gt9 _ (.move _)); (first | go_big_want | go_step); go_step) | ((with_reducible apply gt9 (some 28) (.binOp .eql 3 _ _ _)); (refine wvv9 (V.eql rfl rfl) ?_; go_step)) | ((fail_if_success with_reducible apply ga9); go_step))
      repeat' (first
        | ((with_reducible apply gt9 (some 79) (.binOp .sub _ _ _ _)); (refine wplV (.int _ (((d2 : Nat) : Int))) (V.as (V.subI rfl rfl (by omega)) (by omega)) rfl ?_; go_step)) | ((with_reducible apply gt9 _ (.move _)); (first | go_big_want | go_step); go_step) | ((with_reducible apply gt9 (some 80) (.binOp .eql 3 _ _ _)); (refine wvv9 (V.eql rfl rfl) ?_; go_step)) | ((fail_if_success with_reducible apply ga9); go_step))
      have h1' : a + 2 ≤ m := by omega
      have h2' : m + 2 ≤ b := by omega
      clear h1 h2 hd1 hd2
      by_cases hc : mid < m
      · have e1 := HS0a.out hc
        have e2 := HR0a.out hc
        repeat' (first
          | ((with_reducible apply gt9 (some 131) (.binOp .add _ _ _ _)); (refine wplV (.int _ (((a + b : Nat) : Int))) (V.as (V.addI rfl rfl (by omega)) (by omega)) rfl ?_; go_step)) | ((with_reducible apply gt9 (some 133) (.binOp .shr _ _ _ _)); (refine wplV (.int _ (((mid : Nat) : Int))) (V.as (V.shr rfl rfl isn9 (by omega) rfl) (by omega)) rfl ?_; go_step)) | ((with_reducible apply gt9 (some 137) (.binOp .add _ _ _ _)); (refine wplV (.int _ (((T : Nat) : Int))) (V.as (V.addI rfl rfl (by omega)) (by omega)) rfl ?_; go_step)) | ((with_reducible apply gt9 (some 143) (.binOp .sub _ _ _ _)); (refine wplV (.int _ (((s0 : Nat) : Int))) (V.as (V.subI rfl rfl (by omega)) (by omega)) rfl ?_; go_step)) | ((with_reducible apply gt9 _ (.move _)); (first | go_big_want | go_step); go_step) | ((with_reducible apply gt9 _ (.assign _)); (first | go_big_want | go_step); go_step) | ((with_reducible apply gt9 (some 132) (.convert 3 147 _)); (refine wvv9 (V.convI (by rw [Tryd.underlying3]; rfl) Tryd.underlying147 rfl (IntWalk.u64_in _ (by omega))) ?_; go_step)) | ((with_reducible apply gt9 (some 134) (.convert 147 3 _)); (refine wvv9 (V.convI (by rw [Tryd.underlying147]; rfl) Tryd.underlying3 rfl (IntWalk.i64_in _ (by omega))) ?_; go_step)) | ((with_reducible apply gt9 (some 140) (.binOp .gtr _ _ _ _)); (refine wvv9 (V.gtr rfl rfl) ?_; go_step)) | ((fail_if_success with_reducible apply ga9); go_step))
        repeat' (first
          | ((with_reducible apply gt9 (some 148) (.binOp .sub _ _ _ _)); (refine wplV (.int _ (((T - 1 : Nat) : Int))) (V.as (V.subI rfl rfl (by omega)) (by omega)) rfl ?_; go_step)) | ((with_reducible apply gt9 _ (.assign _)); (first | go_big_want | go_step); go_step) | ((fail_if_success with_reducible apply ga9); go_step))
        go_loopg [20, 21] (r0 - s0) (fun gk iv jv w => ∃ (st r : Nat), gk + st = r ∧ s0 ≤ st ∧ r ≤ r0 ∧ iv = .int .i64 st ∧ jv = .int .i64 r ∧ (s0 < st → wk P (st - 1) ≤ wk P (T - st)) ∧ (r < r0 → wk P (T - 1 - r) ≤ wk P r) ∧ St W w (pks g n c P :: rs'))
        case atStart => exact ⟨s0, r0, by omega, by omega, by omega, by first | rfl | rw [e1], by first | rfl | rw [e2], fun h => by omega, fun h => by omega, hS⟩
        case round =>
          clear hS
          obtain ⟨st, r, hk, hst, hr, rfl, rfl, hlo, hhi, hS⟩ := hrel
          have HLO := hid hlo
          have HHI := hid hhi
          clear hlo hhi
          have f5 := F5.out st hst (by omega)
          by_cases hlt : st < r
          · obtain ⟨h, hh⟩ : ∃ h, h = (st + r) / 2 := ⟨_, rfl⟩
            obtain ⟨y, hy⟩ : ∃ y, y = T - 1 - h := ⟨_, rfl⟩
            have f6 := F5.out (h + 1) (by omega) (by omega)
            obtain ⟨v, hv⟩ : ∃ v, cmpv (elt P y).w (elt P h).w = v := ⟨_, rfl⟩
            have hv2 := cmpv_lt (elt P y).w (elt P h).w
            rw [hv] at hv2
            have HV := hid hv
            have HV2 := hid hv2
            clear hv hv2
            repeat' (first
              | ((with_reducible apply gt9 (some 154) (.binOp .add _ _ _ _)); (refine wplV (.int _ (((st + r : Nat) : Int))) (V.as (V.addI rfl rfl (by omega)) (by omega)) rfl ?_; go_step)) | ((with_reducible apply gt9 (some 156) (.binOp .shr _ _ _ _)); (refine wplV (.int _ (((h : Nat) : Int))) (V.as (V.shr rfl rfl isn9 (by omega) rfl) (by omega)) rfl ?_; go_step)) | ((with_reducible apply gt9 _ (.move _)); (first | go_big_want | go_step); go_step) | ((with_reducible apply gt9 _ (.assign _)); (first | go_big_want | go_step); go_step) | ((with_reducible apply gt9 (some 151) (.binOp .lss _ _ _ _)); (refine wvv9 (V.lss rfl rfl) ?_; go_step)) | ((with_reducible apply gt9 (some 155) (.convert 3 147 _)); (refine wvv9 (V.convI (by rw [Tryd.underlying3]; rfl) Tryd.underlying147 rfl (IntWalk.u64_in _ (by omega))) ?_; go_step)) | ((with_reducible apply gt9 (some 157) (.convert 147 3 _)); (refine wvv9 (V.convI (by rw [Tryd.underlying147]; rfl) Tryd.underlying3 rfl (IntWalk.i64_in _ (by omega))) ?_; go_step)) | ((fail_if_success with_reducible apply ga9); go_step))
            refine drawn_lit [11] (fun w => St W w (pks g n c P :: rs')) (by kernel_rfl) ?_
            replace hS := hS.drew
            focus
              refine takeM 0 _ al9 (by kernel_rfl) (by kernel_rfl) (by kernel_rfl) (by exact fun _ _ _ _ h => h) rfl ?_
              go_step
              refine takeM 1 _ al9 (by kernel_rfl) (by kernel_rfl) (by kernel_rfl) (by exact fun _ _ _ _ h => h) rfl ?_
              go_step
              refine takeM 2 _ al9 (by kernel_rfl) (by kernel_rfl) (by kernel_rfl) (by exact fun _ _ _ _ h => h) rfl ?_
              go_step
              refine takeM 3 _ al9 (by kernel_rfl) (by kernel_rfl) (by kernel_rfl) (by exact fun _ _ _ _ h => h) rfl ?_
              go_step
              (refine takeV 4 (.int _ (((y : Nat) : Int))) al9 (by kernel_rfl) (by kernel_rfl) (by kernel_rfl) (by exact fun _ _ _ _ h => h) (V.as (V.subI rfl rfl (by omega)) (by omega)) rfl ?_)
              go_step
              (refine takeV 5 _ al9 (by kernel_rfl) (by kernel_rfl) (by kernel_rfl) (by exact fun _ _ _ _ h => h) (V.indexSl Tryd.underlying134 isz133 rfl rfl isn9 (by omega) rfl nq9) rfl ?_)
              go_step
              apply takeS 6 al9 (by kernel_rfl) (by kernel_rfl) (by kernel_rfl) (by exact fun _ _ _ _ h => h) [11, 12, 13] (by kernel_rfl) (hS.sub sb9)
              case hfr => intro w hS; ((refine wpl (by kernel_rfl) ?_; apply wp_loadE hS 133 _ rfl _ _ rfl 2 (row_of rfl) _ _ _ _ _; (case hp => exact pl9); (case inst => infer_instance); (case he => with_reducible assumption); (case hq => exact rfl); (case hj => omega); refine put_move ?_; go_step)); refine wpList_nil ?_; exact ⟨rfl, rfl⟩
              case hd => rfl
              refine takeM 7 _ al9 (by kernel_rfl) (by kernel_rfl) (by kernel_rfl) (by exact fun _ _ _ _ h => h) rfl ?_
              go_step
              refine takeM 8 _ al9 (by kernel_rfl) (by kernel_rfl) (by kernel_rfl) (by exact fun _ _ _ _ h => h) rfl ?_
              go_step
              (refine takeV 9 _ al9 (by kernel_rfl) (by kernel_rfl) (by kernel_rfl) (by exact fun _ _ _ _ h => h) (V.indexSl Tryd.underlying134 isz133 rfl rfl isn9 (by omega) rfl nq9) rfl ?_)
              go_step
              apply takeS 10 al9 (by kernel_rfl) (by kernel_rfl) (by kernel_rfl) (by exact fun _ _ _ _ h => h) [11, 12, 13] (by kernel_rfl) (hS.sub sb9)
              case hfr => intro w hS; ((refine wpl (by kernel_rfl) ?_; apply wp_loadE hS 133 _ rfl _ _ rfl 2 (row_of rfl) _ _ _ _ _; (case hp => exact pl9); (case inst => infer_instance); (case he => with_reducible assumption); (case hq => exact rfl); (case hj => omega); refine put_move ?_; go_step)); refine wpList_nil ?_; exact ⟨rfl, rfl⟩
              case hd => rfl
              refine branch1 11 al9 rfl (by kernel_rfl) ?_
              refine wp_callV (f := 67) rfl rfl Tryd.call67 (byWeight_any _ (elt P y) (elt P h)) ?_; rintro e w ⟨rfl, hE⟩; replace hS := hS.ext hE; clear hE; rw [HV.out]; refine ⟨_, rfl, ?_⟩
              refine ⟨fun h => absurd (by decide) h, ?_⟩
              refine drawn_move ?_
              go_step
              (refine takeV 12 _ al9 (by kernel_rfl) (by kernel_rfl) (by kernel_rfl) (by exact fun _ _ _ _ h => h) (V.lss rfl rfl) rfl ?_)
              go_step
              (refine takeV 13 _ al9 (by kernel_rfl) (by kernel_rfl) (by kernel_rfl) (by exact fun _ _ _ _ h => h) (V.notD rfl) rfl ?_)
              go_step
              refine drawn_done (by kernel_rfl) ?_ _
            by_cases hc2 : v < 0
            · skip
              repeat' (first
                | ((with_reducible apply gt9 _ (.move _)); (first | go_big_want | go_step); go_step) | ((with_reducible apply gt9 _ (.assign _)); (first | go_big_want | go_step); go_step) | ((fail_if_success with_reducible apply ga9); go_step))
              go_roundg (h - st)
              case measure => omega
              case rel =>
                refine ⟨st, h, by omega, by omega, by omega, rfl, by go_num, HLO.out, fun k1 => ?_, hS⟩
                have := HV2.out.1 hc2
                rw [← hy]
                exact Int.le_of_lt this
            · skip
              repeat' (first
                | ((with_reducible apply gt9 (some 173) (.binOp .add _ _ _ _)); (refine wplV (.int _ (((h + 1 : Nat) : Int))) (V.as (V.addI rfl rfl (by omega)) (by omega)) rfl ?_; go_step)) | ((with_reducible apply gt9 _ (.move _)); (first | go_big_want | go_step); go_step) | ((with_reducible apply gt9 _ (.assign _)); (first | go_big_want | go_step); go_step) | ((fail_if_success with_reducible apply ga9); go_step))
              go_roundg (r - (h + 1))
              case measure => omega
              case rel =>
                refine ⟨h + 1, r, by omega, by omega, by omega, by go_num, rfl, fun k1 => ?_, HHI.out, hS⟩
                have := HV2.out
                rw [show T - (h + 1) = y by omega, Nat.add_sub_cancel]
                show (elt P h).w ≤ (elt P y).w
                omega
          · obtain rfl : st = r := by omega
            obtain ⟨en, hen⟩ : ∃ en, en = T - st := ⟨_, rfl⟩
            have HLO2 : Hid (a < st → m ≤ en → en < b → wk P (st - 1) ≤ wk P en) := fun k1 k2 k3 => by
              rw [hen]; exact HLO.out (by omega)
            have HHI2 : Hid (m < en → st < m → wk P (en - 1) ≤ wk P st) := fun k1 k2 => by
              rw [show en - 1 = T - 1 - st by omega]; exact HHI.out (by omega)
            clear HLO HHI
            repeat' (first
              | ((with_reducible apply gt9 _ (.move _)); (first | go_big_want | go_step); go_step) | ((with_reducible apply gt9 (some 151) (.binOp .lss _ _ _ _)); (refine wvv9 (V.lss rfl rfl) ?_; go_step)) | ((fail_if_success with_reducible apply ga9); go_step))
            by_cases hrot : st < m ∧ m < en
            · have hrot1 := hrot.1
              have hrot2 := hrot.2
              repeat' (first
                | ((with_reducible apply gt9 (some 177) (.binOp .sub _ _ _ _)); (refine wplV (.int _ (((en : Nat) : Int))) (V.as (V.subI rfl rfl (by omega)) (by omega)) rfl ?_; go_step)) | ((with_reducible apply gt9 _ (.call ⟨.value (.func 109), _, _⟩)); refine wpl_call (f := 109) Tryd.call109 (by kernel_rfl) ?_; refine ⟨_, (rotate_any W _ _ rs' g n c st m en P hS Pull.head hrot1 hrot2 (by omega) hn byW), ?_⟩; rintro e w ⟨rfl, Q, hQ, hS2⟩; replace hS := hS2; clear hS2; refine ⟨_, rfl, ?_⟩; refine put_move ?_; go_step) | ((with_reducible apply gt9 _ (.move _)); (first | go_big_want | go_step); go_step) | ((with_reducible apply gt9 _ (.assign _)); (first | go_big_want | go_step); go_step) | ((with_reducible apply gt9 _ (.pick _ _ _)); (refine wplPickT rfl (by kernel_rfl) ?_; go_step)) | ((with_reducible apply gt9 (some 180) (.binOp .lss _ _ _ _)); (refine wplD _ (V.lss rfl rfl) (by kernel_rfl) (fun hB => ?_) (fun hB => ?_) <;> (try (have hF : False := (by omega); cases hF)) <;> go_step)) | ((with_reducible apply gt9 (some 184) (.binOp .lss _ _ _ _)); (refine wvv9 (V.lss rfl rfl) ?_; go_step)) | ((fail_if_success with_reducible apply ga9); go_step))
              obtain ⟨s1, s2, s3, s4, hx⟩ := sym_parts HA1.out HA2.out ham hmb hmid (show en = mid + m - st by omega) (by omega) (by omega) (by omega) (by omega) (by omega) HLO2.out HHI2.out hQ
              have hQr := hQ.rg (show st ≤ m by omega) (show m ≤ en by omega)
              have hQl := hQr.len
              have HQR := hid (hQr.wide (show a ≤ st by omega) (show en ≤ b by omega) (by omega) (by omega))
              have HX := hid hx
              have S1 := hid s1
              have S2 := hid s2
              have S3 := hid s3
              have S4 := hid s4
              have g1 : a ≤ st := by omega
              have g2 : st ≤ mid := by omega
              have g3 : mid ≤ en := by omega
              have g4 : en ≤ b := by omega
              have g5 : mid - a ≤ N := by omega
              have g6 : b - mid ≤ N := by omega
              have g7 : a < mid := by omega
              have g8 : mid < b := by omega
              have hQn : Q.length = n := by omega
              clear hx s1 s2 s3 s4 hQ hQr HLO2 HHI2 HA1 HA2 F5 HS0a HS0b HR0a HR0b hen hlt hk hst hr f5 f1 f2 f3 f4 hT hmid e1 e2 hc h1' h2' hN hrot hQl hPl hp ham hmb
              by_cases hl : a < st ∧ st < mid
              · obtain ⟨hl1, hl2⟩ := hl
                have hb2 : mid ≤ n := by omega
                have HC := hid (fun (w : World) (hS : St W w (pks g n c Q :: rs')) => IH.out W w (pks g n c Q :: rs') rs' g n c a st mid Q g5 hS Pull.head hl1 hl2 hb2 hn S1.out S2.out)
                repeat' (first
                  | ((with_reducible apply gt9 _ (.call ⟨.value (.func 101), _, _⟩)); refine wpl_call (f := 101) Tryd.call101 (by kernel_rfl) ?_; refine ⟨_, (HC.out _ hS), ?_⟩; rintro e w ⟨rfl, R, hR1, hR2, hS2⟩; replace hS := hS2; clear hS2; refine ⟨_, rfl, ?_⟩; refine put_move ?_; go_step) | ((with_reducible apply gt9 _ (.move _)); (first | go_big_want | go_step); go_step) | ((with_reducible apply gt9 _ (.pick _ _ _)); (refine wplPickT rfl (by kernel_rfl) ?_; go_step)) | ((with_reducible apply gt9 (some 194) (.binOp .lss _ _ _ _)); (refine wplD _ (V.lss rfl rfl) (by kernel_rfl) (fun hB => ?_) (fun hB => ?_) <;> (try (have hF : False := (by omega); cases hF)) <;> go_step)) | ((with_reducible apply gt9 (some 198) (.binOp .lss _ _ _ _)); (refine wvv9 (V.lss rfl rfl) ?_; go_step)) | ((fail_if_success with_reducible apply ga9); go_step))
                have S5 := hid (S3.out.same (Q := R) fun x k1 k2 => hR2.out x (by omega))
                have S6 := hid (S4.out.same (Q := R) fun x k1 k2 => hR2.out x (by omega))
                have R1 := hid hR1
                have R2 := hid hR2
                clear hR1 hR2
                by_cases hr : mid < en ∧ en < b
                · obtain ⟨hr1, hr2⟩ := hr
                  have HC := hid (fun (w : World) (hS : St W w (pks g n c R :: rs')) => IH.out W w (pks g n c R :: rs') rs' g n c mid en b R g6 hS Pull.head hr1 hr2 hb hn S5.out S6.out)
                  repeat' (first
                    | ((with_reducible apply gt9 _ (.call ⟨.value (.func 101), _, _⟩)); refine wpl_call (f := 101) Tryd.call101 (by kernel_rfl) ?_; refine ⟨_, (HC.out _ hS), ?_⟩; rintro e w ⟨rfl, Z, hZ1, hZ2, hS2⟩; replace hS := hS2; clear hS2; refine ⟨_, rfl, ?_⟩; refine put_move ?_; go_step) | ((with_reducible apply gt9 _ (.move _)); (first | go_big_want | go_step); go_step) | ((with_reducible apply gt9 _ (.pick _ _ _)); (refine wplPickT rfl (by kernel_rfl) ?_; go_step)) | ((with_reducible apply gt9 (some 208) (.binOp .lss _ _ _ _)); (refine wplD _ (V.lss rfl rfl) (by kernel_rfl) (fun hB => ?_) (fun hB => ?_) <;> (try (have hF : False := (by omega); cases hF)) <;> go_step)) | ((with_reducible apply gt9 (some 212) (.binOp .lss _ _ _ _)); (refine wvv9 (V.lss rfl rfl) ?_; go_step)) | ((fail_if_success with_reducible apply ga9); go_step))
                  go_end0
                  obtain ⟨j1, j2⟩ := sym_join (show a ≤ mid by omega) (show mid ≤ b by omega) (show b ≤ Q.length by rw [hQn]; exact hb) HX.out R2.out hZ2 R1.out hZ1
                  exact ⟨rfl, Z, j1, HQR.out.trans j2, hS⟩
                · have hZ1 : Asc PkV.w mid b R := by
                    by_cases c1 : mid < en
                    · exact S5.out.sub (Nat.le_refl _) (by omega)
                    · exact S6.out.sub (by omega) (Nat.le_refl _)
                  repeat' (first
                    | ((with_reducible apply gt9 _ (.move _)); (first | go_big_want | go_step); go_step) | ((with_reducible apply gt9 _ (.pick _ _ _)); (refine wplPickT rfl (by kernel_rfl) ?_; go_step)) | ((with_reducible apply gt9 (some 208) (.binOp .lss _ _ _ _)); (refine wplD _ (V.lss rfl rfl) (by kernel_rfl) (fun hB => ?_) (fun hB => ?_) <;> (try (have hF : False := (by omega); cases hF)) <;> go_step)) | ((with_reducible apply gt9 (some 212) (.binOp .lss _ _ _ _)); (refine wvv9 (V.lss rfl rfl) ?_; go_step)) | ((fail_if_success with_reducible apply ga9); go_step))
                  all_goals
                    go_end0
                    obtain ⟨j1, j2⟩ := sym_join (show a ≤ mid by omega) (show mid ≤ b by omega) (show b ≤ Q.length by rw [hQn]; exact hb) HX.out R2.out (Rg.refl _ _ _) R1.out hZ1
                    exact ⟨rfl, R, j1, HQR.out.trans j2, hS⟩
              · obtain ⟨R, hRe⟩ : ∃ R, R = Q := ⟨Q, rfl⟩
                have hR2 : Rg a mid Q R := by rw [hRe]; exact Rg.refl _ _ _
                have hR1 : Asc PkV.w a mid R := by
                  rw [hRe]
                  by_cases c1 : a < st
                  · exact S1.out.sub (Nat.le_refl _) (by omega)
                  · exact S2.out.sub (by omega) (Nat.le_refl _)
                rw [← hRe] at hS
                repeat' (first
                  | go_skip | ((with_reducible apply gt9 _ (.move _)); (first | go_big_want | go_step); go_step) | ((with_reducible apply gt9 _ (.pick _ _ _)); first | (refine wplPickT rfl (by kernel_rfl) ?_; go_step) | (refine wplPickF rfl (by kernel_rfl) ?_; go_step)) | ((with_reducible apply gt9 (some 194) (.binOp .lss _ _ _ _)); (refine wplD _ (V.lss rfl rfl) (by kernel_rfl) (fun hB => ?_) (fun hB => ?_) <;> (try (have hF : False := (by omega); cases hF)) <;> go_step)) | ((with_reducible apply gt9 (some 198) (.binOp .lss _ _ _ _)); (refine wvv9 (V.lss rfl rfl) ?_; go_step)) | ((fail_if_success with_reducible apply ga9); go_step))
                all_goals
                  have S5 := hid (S3.out.same (Q := R) fun x k1 k2 => hR2.out x (by omega))
                  have S6 := hid (S4.out.same (Q := R) fun x k1 k2 => hR2.out x (by omega))
                  have R1 := hid hR1
                  have R2 := hid hR2
                  clear hR1 hR2
                  by_cases hr : mid < en ∧ en < b
                  · obtain ⟨hr1, hr2⟩ := hr
                    have HC := hid (fun (w : World) (hS : St W w (pks g n c R :: rs')) => IH.out W w (pks g n c R :: rs') rs' g n c mid en b R g6 hS Pull.head hr1 hr2 hb hn S5.out S6.out)
                    repeat' (first
                      | ((with_reducible apply gt9 _ (.call ⟨.value (.func 101), _, _⟩)); refine wpl_call (f := 101) Tryd.call101 (by kernel_rfl) ?_; refine ⟨_, (HC.out _ hS), ?_⟩; rintro e w ⟨rfl, Z, hZ1, hZ2, hS2⟩; replace hS := hS2; clear hS2; refine ⟨_, rfl, ?_⟩; refine put_move ?_; go_step) | ((with_reducible apply gt9 _ (.move _)); (first | go_big_want | go_step); go_step) | ((with_reducible apply gt9 _ (.pick _ _ _)); (refine wplPickT rfl (by kernel_rfl) ?_; go_step)) | ((with_reducible apply gt9 (some 208) (.binOp .lss _ _ _ _)); (refine wplD _ (V.lss rfl rfl) (by kernel_rfl) (fun hB => ?_) (fun hB => ?_) <;> (try (have hF : False := (by omega); cases hF)) <;> go_step)) | ((with_reducible apply gt9 (some 212) (.binOp .lss _ _ _ _)); (refine wvv9 (V.lss rfl rfl) ?_; go_step)) | ((fail_if_success with_reducible apply ga9); go_step))
                    go_end0
                    obtain ⟨j1, j2⟩ := sym_join (show a ≤ mid by omega) (show mid ≤ b by omega) (show b ≤ Q.length by rw [hQn]; exact hb) HX.out R2.out hZ2 R1.out hZ1
                    exact ⟨rfl, Z, j1, HQR.out.trans j2, hS⟩
                  · have hZ1 : Asc PkV.w mid b R := by
                      by_cases c1 : mid < en
                      · exact S5.out.sub (Nat.le_refl _) (by omega)
                      · exact S6.out.sub (by omega) (Nat.le_refl _)
                    repeat' (first
                      | ((with_reducible apply gt9 _ (.move _)); (first | go_big_want | go_step); go_step) | ((with_reducible apply gt9 _ (.pick _ _ _)); (refine wplPickT rfl (by kernel_rfl) ?_; go_step)) | ((with_reducible apply gt9 (some 208) (.binOp .lss _ _ _ _)); (refine wplD _ (V.lss rfl rfl) (by kernel_rfl) (fun hB => ?_) (fun hB => ?_) <;> (try (have hF : False := (by omega); cases hF)) <;> go_step)) | ((with_reducible apply gt9 (some 212) (.binOp .lss _ _ _ _)); (refine wvv9 (V.lss rfl rfl) ?_; go_step)) | ((fail_if_success with_reducible apply ga9); go_step))
                    all_goals
                      go_end0
                      obtain ⟨j1, j2⟩ := sym_join (show a ≤ mid by omega) (show mid ≤ b by omega) (show b ≤ Q.length by rw [hQn]; exact hb) HX.out R2.out (Rg.refl _ _ _) R1.out hZ1
                      exact ⟨rfl, R, j1, HQR.out.trans j2, hS⟩
            · obtain ⟨Q, hQe, hQ⟩ : ∃ Q, Q = P ∧ Rot st m en P Q := ⟨P, rfl, Rot.triv (by omega) (by omega) (by omega) (by omega)⟩
              rw [← hQe] at hS
              repeat' (first
                | ((with_reducible apply gt9 (some 177) (.binOp .sub _ _ _ _)); (refine wplV (.int _ (((en : Nat) : Int))) (V.as (V.subI rfl rfl (by omega)) (by omega)) rfl ?_; go_step)) | ((with_reducible apply gt9 _ (.move _)); (first | go_big_want | go_step); go_step) | ((with_reducible apply gt9 _ (.assign _)); (first | go_big_want | go_step); go_step) | ((with_reducible apply gt9 _ (.pick _ _ _)); (refine wplPickT rfl (by kernel_rfl) ?_; go_step)) | ((with_reducible apply gt9 (some 180) (.binOp .lss _ _ _ _)); (refine wplD _ (V.lss rfl rfl) (by kernel_rfl) (fun hB => ?_) (fun hB => ?_) <;> (try (have hF : False := (by omega); cases hF)) <;> go_step)) | ((with_reducible apply gt9 (some 184) (.binOp .lss _ _ _ _)); (refine wvv9 (V.lss rfl rfl) ?_; go_step)) | ((fail_if_success with_reducible apply ga9); go_step))
              all_goals
                obtain ⟨s1, s2, s3, s4, hx⟩ := sym_parts HA1.out HA2.out ham hmb hmid (show en = mid + m - st by omega) (by omega) (by omega) (by omega) (by omega) (by omega) HLO2.out HHI2.out hQ
                have hQr := hQ.rg (show st ≤ m by omega) (show m ≤ en by omega)
                have hQl := hQr.len
                have HQR := hid (hQr.wide (show a ≤ st by omega) (show en ≤ b by omega) (by omega) (by omega))
                have HX := hid hx
                have S1 := hid s1
                have S2 := hid s2
                have S3 := hid s3
                have S4 := hid s4
                have g1 : a ≤ st := by omega
                have g2 : st ≤ mid := by omega
                have g3 : mid ≤ en := by omega
                have g4 : en ≤ b := by omega
                have g5 : mid - a ≤ N := by omega
                have g6 : b - mid ≤ N := by omega
                have g7 : a < mid := by omega
                have g8 : mid < b := by omega
                have hQn : Q.length = n := by omega
                clear hx s1 s2 s3 s4 hQ hQr HLO2 HHI2 HA1 HA2 F5 HS0a HS0b HR0a HR0b hen hlt hk hst hr f5 f1 f2 f3 f4 hT hmid e1 e2 hc h1' h2' hN hrot hQl hPl hp ham hmb
                by_cases hl : a < st ∧ st < mid
                · obtain ⟨hl1, hl2⟩ := hl
                  have hb2 : mid ≤ n := by omega
                  have HC := hid (fun (w : World) (hS : St W w (pks g n c Q :: rs')) => IH.out W w (pks g n c Q :: rs') rs' g n c a st mid Q g5 hS Pull.head hl1 hl2 hb2 hn S1.out S2.out)
                  repeat' (first
                    | ((with_reducible apply gt9 _ (.call ⟨.value (.func 101), _, _⟩)); refine wpl_call (f := 101) Tryd.call101 (by kernel_rfl) ?_; refine ⟨_, (HC.out _ hS), ?_⟩; rintro e w ⟨rfl, R, hR1, hR2, hS2⟩; replace hS := hS2; clear hS2; refine ⟨_, rfl, ?_⟩; refine put_move ?_; go_step) | ((with_reducible apply gt9 _ (.move _)); (first | go_big_want | go_step); go_step) | ((with_reducible apply gt9 _ (.pick _ _ _)); (refine wplPickT rfl (by kernel_rfl) ?_; go_step)) | ((with_reducible apply gt9 (some 194) (.binOp .lss _ _ _ _)); (refine wplD _ (V.lss rfl rfl) (by kernel_rfl) (fun hB => ?_) (fun hB => ?_) <;> (try (have hF : False := (by omega); cases hF)) <;> go_step)) | ((with_reducible apply gt9 (some 198) (.binOp .lss _ _ _ _)); (refine wvv9 (V.lss rfl rfl) ?_; go_step)) | ((fail_if_success with_reducible apply ga9); go_step))
                  have S5 := hid (S3.out.same (Q := R) fun x k1 k2 => hR2.out x (by omega))
                  have S6 := hid (S4.out.same (Q := R) fun x k1 k2 => hR2.out x (by omega))
                  have R1 := hid hR1
                  have R2 := hid hR2
                  clear hR1 hR2
                  by_cases hr : mid < en ∧ en < b
                  · obtain ⟨hr1, hr2⟩ := hr
                    have HC := hid (fun (w : World) (hS : St W w (pks g n c R :: rs')) => IH.out W w (pks g n c R :: rs') rs' g n c mid en b R g6 hS Pull.head hr1 hr2 hb hn S5.out S6.out)
                    repeat' (first
                      | ((with_reducible apply gt9 _ (.call ⟨.value (.func 101), _, _⟩)); refine wpl_call (f := 101) Tryd.call101 (by kernel_rfl) ?_; refine ⟨_, (HC.out _ hS), ?_⟩; rintro e w ⟨rfl, Z, hZ1, hZ2, hS2⟩; replace hS := hS2; clear hS2; refine ⟨_, rfl, ?_⟩; refine put_move ?_; go_step) | ((with_reducible apply gt9 _ (.move _)); (first | go_big_want | go_step); go_step) | ((with_reducible apply gt9 _ (.pick _ _ _)); (refine wplPickT rfl (by kernel_rfl) ?_; go_step)) | ((with_reducible apply gt9 (some 208) (.binOp .lss _ _ _ _)); (refine wplD _ (V.lss rfl rfl) (by kernel_rfl) (fun hB => ?_) (fun hB => ?_) <;> (try (have hF : False := (by omega); cases hF)) <;> go_step)) | ((with_reducible apply gt9 (some 212) (.binOp .lss _ _ _ _)); (refine wvv9 (V.lss rfl rfl) ?_; go_step)) | ((fail_if_success with_reducible apply ga9); go_step))
                    go_end0
                    obtain ⟨j1, j2⟩ := sym_join (show a ≤ mid by omega) (show mid ≤ b by omega) (show b ≤ Q.length by rw [hQn]; exact hb) HX.out R2.out hZ2 R1.out hZ1
                    exact ⟨rfl, Z, j1, HQR.out.trans j2, hS⟩
                  · have hZ1 : Asc PkV.w mid b R := by
                      by_cases c1 : mid < en
                      · exact S5.out.sub (Nat.le_refl _) (by omega)
                      · exact S6.out.sub (by omega) (Nat.le_refl _)
                    repeat' (first
                      | go_skip | ((with_reducible apply gt9 _ (.move _)); (first | go_big_want | go_step); go_step) | ((with_reducible apply gt9 _ (.pick _ _ _)); first | (refine wplPickT rfl (by kernel_rfl) ?_; go_step) | (refine wplPickF rfl (by kernel_rfl) ?_; go_step)) | ((with_reducible apply gt9 (some 208) (.binOp .lss _ _ _ _)); (refine wplD _ (V.lss rfl rfl) (by kernel_rfl) (fun hB => ?_) (fun hB => ?_) <;> (try (have hF : False := (by omega); cases hF)) <;> go_step)) | ((with_reducible apply gt9 (some 212) (.binOp .lss _ _ _ _)); (refine wvv9 (V.lss rfl rfl) ?_; go_step)) | ((fail_if_success with_reducible apply ga9); go_step))
                    all_goals
                      go_end0
                      obtain ⟨j1, j2⟩ := sym_join (show a ≤ mid by omega) (show mid ≤ b by omega) (show b ≤ Q.length by rw [hQn]; exact hb) HX.out R2.out (Rg.refl _ _ _) R1.out hZ1
                      exact ⟨rfl, R, j1, HQR.out.trans j2, hS⟩
                · obtain ⟨R, hRe⟩ : ∃ R, R = Q := ⟨Q, rfl⟩
                  have hR2 : Rg a mid Q R := by rw [hRe]; exact Rg.refl _ _ _
                  have hR1 : Asc PkV.w a mid R := by
                    rw [hRe]
                    by_cases c1 : a < st
                    · exact S1.out.sub (Nat.le_refl _) (by omega)
                    · exact S2.out.sub (by omega) (Nat.le_refl _)
                  rw [← hRe] at hS
                  repeat' (first
                    | go_skip | ((with_reducible apply gt9 _ (.move _)); (first | go_big_want | go_step); go_step) | ((with_reducible apply gt9 _ (.pick _ _ _)); first | (refine wplPickT rfl (by kernel_rfl) ?_; go_step) | (refine wplPickF rfl (by kernel_rfl) ?_; go_step)) | ((with_reducible apply gt9 (some 194) (.binOp .lss _ _ _ _)); (refine wplD _ (V.lss rfl rfl) (by kernel_rfl) (fun hB => ?_) (fun hB => ?_) <;> (try (have hF : False := (by omega); cases hF)) <;> go_step)) | ((with_reducible apply gt9 (some 198) (.binOp .lss _ _ _ _)); (refine wvv9 (V.lss rfl rfl) ?_; go_step)) | ((fail_if_success with_reducible apply ga9); go_step))
                  all_goals
                    have S5 := hid (S3.out.same (Q := R) fun x k1 k2 => hR2.out x (by omega))
                    have S6 := hid (S4.out.same (Q := R) fun x k1 k2 => hR2.out x (by omega))
                    have R1 := hid hR1
                    have R2 := hid hR2
                    clear hR1 hR2
                    by_cases hr : mid < en ∧ en < b
                    · obtain ⟨hr1, hr2⟩ := hr
                      have HC := hid (fun (w : World) (hS : St W w (pks g n c R :: rs')) => IH.out W w (pks g n c R :: rs') rs' g n c mid en b R g6 hS Pull.head hr1 hr2 hb hn S5.out S6.out)
                      repeat' (first
                        | ((with_reducible apply gt9 _ (.call ⟨.value (.func 101), _, _⟩)); refine wpl_call (f := 101) Tryd.call101 (by kernel_rfl) ?_; refine ⟨_, (HC.out _ hS), ?_⟩; rintro e w ⟨rfl, Z, hZ1, hZ2, hS2⟩; replace hS := hS2; clear hS2; refine ⟨_, rfl, ?_⟩; refine put_move ?_; go_step) | ((with_reducible apply gt9 _ (.move _)); (first | go_big_want | go_step); go_step) | ((with_reducible apply gt9 _ (.pick _ _ _)); (refine wplPickT rfl (by kernel_rfl) ?_; go_step)) | ((with_reducible apply gt9 (some 208) (.binOp .lss _ _ _ _)); (refine wplD _ (V.lss rfl rfl) (by kernel_rfl) (fun hB => ?_) (fun hB => ?_) <;> (try (have hF : False := (by omega); cases hF)) <;> go_step)) | ((with_reducible apply gt9 (some 212) (.binOp .lss _ _ _ _)); (refine wvv9 (V.lss rfl rfl) ?_; go_step)) | ((fail_if_success with_reducible apply ga9); go_step))
                      go_end0
                      obtain ⟨j1, j2⟩ := sym_join (show a ≤ mid by omega) (show mid ≤ b by omega) (show b ≤ Q.length by rw [hQn]; exact hb) HX.out R2.out hZ2 R1.out hZ1
                      exact ⟨rfl, Z, j1, HQR.out.trans j2, hS⟩
                    · have hZ1 : Asc PkV.w mid b R := by
                        by_cases c1 : mid < en
                        · exact S5.out.sub (Nat.le_refl _) (by omega)
                        · exact S6.out.sub (by omega) (Nat.le_refl _)
                      repeat' (first
                        | go_skip | ((with_reducible apply gt9 _ (.move _)); (first | go_big_want | go_step); go_step) | ((with_reducible apply gt9 _ (.pick _ _ _)); first | (refine wplPickT rfl (by kernel_rfl) ?_; go_step) | (refine wplPickF rfl (by kernel_rfl) ?_; go_step)) | ((with_reducible apply gt9 (some 208) (.binOp .lss _ _ _ _)); (refine wplD _ (V.lss rfl rfl) (by kernel_rfl) (fun hB => ?_) (fun hB => ?_) <;> (try (have hF : False := (by omega); cases hF)) <;> go_step)) | ((with_reducible apply gt9 (some 212) (.binOp .lss _ _ _ _)); (refine wvv9 (V.lss rfl rfl) ?_; go_step)) | ((fail_if_success with_reducible apply ga9); go_step))
                      all_goals
                        go_end0
                        obtain ⟨j1, j2⟩ := sym_join (show a ≤ mid by omega) (show mid ≤ b by omega) (show b ≤ Q.length by rw [hQn]; exact hb) HX.out R2.out (Rg.refl _ _ _) R1.out hZ1
                        exact ⟨rfl, R, j1, HQR.out.trans j2, hS⟩
      · have e1 := HS0b.out hc
        have e2 := HR0b.out hc
        repeat' (first
          | ((with_reducible apply gt9 (some 131) (.binOp .add _ _ _ _)); (refine wplV (.int _ (((a + b : Nat) : Int))) (V.as (V.addI rfl rfl (by omega)) (by omega)) rfl ?_; go_step)) | ((with_reducible apply gt9 (some 133) (.binOp .shr _ _ _ _)); (refine wplV (.int _ (((mid : Nat) : Int))) (V.as (V.shr rfl rfl isn9 (by omega) rfl) (by omega)) rfl ?_; go_step)) | ((with_reducible apply gt9 (some 137) (.binOp .add _ _ _ _)); (refine wplV (.int _ (((T : Nat) : Int))) (V.as (V.addI rfl rfl (by omega)) (by omega)) rfl ?_; go_step)) | ((with_reducible apply gt9 _ (.move _)); (first | go_big_want | go_step); go_step) | ((with_reducible apply gt9 _ (.assign _)); (first | go_big_want | go_step); go_step) | ((with_reducible apply gt9 (some 132) (.convert 3 147 _)); (refine wvv9 (V.convI (by rw [Tryd.underlying3]; rfl) Tryd.underlying147 rfl (IntWalk.u64_in _ (by omega))) ?_; go_step)) | ((with_reducible apply gt9 (some 134) (.convert 147 3 _)); (refine wvv9 (V.convI (by rw [Tryd.underlying147]; rfl) Tryd.underlying3 rfl (IntWalk.i64_in _ (by omega))) ?_; go_step)) | ((with_reducible apply gt9 (some 140) (.binOp .gtr _ _ _ _)); (refine wvv9 (V.gtr rfl rfl) ?_; go_step)) | ((fail_if_success with_reducible apply ga9); go_step))
        repeat' (first
          | ((with_reducible apply gt9 (some 148) (.binOp .sub _ _ _ _)); (refine wplV (.int _ (((T - 1 : Nat) : Int))) (V.as (V.subI rfl rfl (by omega)) (by omega)) rfl ?_; go_step)) | ((with_reducible apply gt9 _ (.assign _)); (first | go_big_want | go_step); go_step) | ((fail_if_success with_reducible apply ga9); go_step))
        go_loopg [20, 21] (r0 - s0) (fun gk iv jv w => ∃ (st r : Nat), gk + st = r ∧ s0 ≤ st ∧ r ≤ r0 ∧ iv = .int .i64 st ∧ jv = .int .i64 r ∧ (s0 < st → wk P (st - 1) ≤ wk P (T - st)) ∧ (r < r0 → wk P (T - 1 - r) ≤ wk P r) ∧ St W w (pks g n c P :: rs'))
        case atStart => exact ⟨s0, r0, by omega, by omega, by omega, by first | rfl | rw [e1], by first | rfl | rw [e2], fun h => by omega, fun h => by omega, hS⟩
        case round =>
          clear hS
          obtain ⟨st, r, hk, hst, hr, rfl, rfl, hlo, hhi, hS⟩ := hrel
          have HLO := hid hlo
          have HHI := hid hhi
          clear hlo hhi
          have f5 := F5.out st hst (by omega)
          by_cases hlt : st < r
          · obtain ⟨h, hh⟩ : ∃ h, h = (st + r) / 2 := ⟨_, rfl⟩
            obtain ⟨y, hy⟩ : ∃ y, y = T - 1 - h := ⟨_, rfl⟩
            have f6 := F5.out (h + 1) (by omega) (by omega)
            obtain ⟨v, hv⟩ : ∃ v, cmpv (elt P y).w (elt P h).w = v := ⟨_, rfl⟩
            have hv2 := cmpv_lt (elt P y).w (elt P h).w
            rw [hv] at hv2
            have HV := hid hv
            have HV2 := hid hv2
            clear hv hv2
            repeat' (first
              | ((with_reducible apply gt9 (some 154) (.binOp .add _ _ _ _)); (refine wplV (.int _ (((st + r : Nat) : Int))) (V.as (V.addI rfl rfl (by omega)) (by omega)) rfl ?_; go_step)) | ((with_reducible apply gt9 (some 156) (.binOp .shr _ _ _ _)); (refine wplV (.int _ (((h : Nat) : Int))) (V.as (V.shr rfl rfl isn9 (by omega) rfl) (by omega)) rfl ?_; go_step)) | ((with_reducible apply gt9 _ (.move _)); (first | go_big_want | go_step); go_step) | ((with_reducible apply gt9 _ (.assign _)); (first | go_big_want | go_step); go_step) | ((with_reducible apply gt9 (some 151) (.binOp .lss _ _ _ _)); (refine wvv9 (V.lss rfl rfl) ?_; go_step)) | ((with_reducible apply gt9 (some 155) (.convert 3 147 _)); (refine wvv9 (V.convI (by rw [Tryd.underlying3]; rfl) Tryd.underlying147 rfl (IntWalk.u64_in _ (by omega))) ?_; go_step)) | ((with_reducible apply gt9 (some 157) (.convert 147 3 _)); (refine wvv9 (V.convI (by rw [Tryd.underlying147]; rfl) Tryd.underlying3 rfl (IntWalk.i64_in _ (by omega))) ?_; go_step)) | ((fail_if_success with_reducible apply ga9); go_step))
            refine drawn_lit [11] (fun w => St W w (pks g n c P :: rs')) (by kernel_rfl) ?_
            replace hS := hS.drew
            focus
              refine takeM 0 _ al9 (by kernel_rfl) (by kernel_rfl) (by kernel_rfl) (by exact fun _ _ _ _ h => h) rfl ?_
              go_step
              refine takeM 1 _ al9 (by kernel_rfl) (by kernel_rfl) (by kernel_rfl) (by exact fun _ _ _ _ h => h) rfl ?_
              go_step
              refine takeM 2 _ al9 (by kernel_rfl) (by kernel_rfl) (by kernel_rfl) (by exact fun _ _ _ _ h => h) rfl ?_
              go_step
              refine takeM 3 _ al9 (by kernel_rfl) (by kernel_rfl) (by kernel_rfl) (by exact fun _ _ _ _ h => h) rfl ?_
              go_step
              (refine takeV 4 (.int _ (((y : Nat) : Int))) al9 (by kernel_rfl) (by kernel_rfl) (by kernel_rfl) (by exact fun _ _ _ _ h => h) (V.as (V.subI rfl rfl (by omega)) (by omega)) rfl ?_)
              go_step
              (refine takeV 5 _ al9 (by kernel_rfl) (by kernel_rfl) (by kernel_rfl) (by exact fun _ _ _ _ h => h) (V.indexSl Tryd.underlying134 isz133 rfl rfl isn9 (by omega) rfl nq9) rfl ?_)
              go_step
              apply takeS 6 al9 (by kernel_rfl) (by kernel_rfl) (by kernel_rfl) (by exact fun _ _ _ _ h => h) [11, 12, 13] (by kernel_rfl) (hS.sub sb9)
              case hfr => intro w hS; ((refine wpl (by kernel_rfl) ?_; apply wp_loadE hS 133 _ rfl _ _ rfl 2 (row_of rfl) _ _ _ _ _; (case hp => exact pl9); (case inst => infer_instance); (case he => with_reducible assumption); (case hq => exact rfl); (case hj => omega); refine put_move ?_; go_step)); refine wpList_nil ?_; exact ⟨rfl, rfl⟩
              case hd => rfl
              refine takeM 7 _ al9 (by kernel_rfl) (by kernel_rfl) (by kernel_rfl) (by exact fun _ _ _ _ h => h) rfl ?_
              go_step
              refine takeM 8 _ al9 (by kernel_rfl) (by kernel_rfl) (by kernel_rfl) (by exact fun _ _ _ _ h => h) rfl ?_
              go_step
              (refine takeV 9 _ al9 (by kernel_rfl) (by kernel_rfl) (by kernel_rfl) (by exact fun _ _ _ _ h => h) (V.indexSl Tryd.underlying134 isz133 rfl rfl isn9 (by omega) rfl nq9) rfl ?_)
              go_step
              apply takeS 10 al9 (by kernel_rfl) (by kernel_rfl) (by kernel_rfl) (by exact fun _ _ _ _ h => h) [11, 12, 13] (by kernel_rfl) (hS.sub sb9)
              case hfr => intro w hS; ((refine wpl (by kernel_rfl) ?_; apply wp_loadE hS 133 _ rfl _ _ rfl 2 (row_of rfl) _ _ _ _ _; (case hp => exact pl9); (case inst => infer_instance); (case he => with_reducible assumption); (case hq => exact rfl); (case hj => omega); refine put_move ?_; go_step)); refine wpList_nil ?_; exact ⟨rfl, rfl⟩
              case hd => rfl
              refine branch1 11 al9 rfl (by kernel_rfl) ?_
              refine wp_callV (f := 67) rfl rfl Tryd.call67 (byWeight_any _ (elt P y) (elt P h)) ?_; rintro e w ⟨rfl, hE⟩; replace hS := hS.ext hE; clear hE; rw [HV.out]; refine ⟨_, rfl, ?_⟩
              refine ⟨fun h => absurd (by decide) h, ?_⟩
              refine drawn_move ?_
              go_step
              (refine takeV 12 _ al9 (by kernel_rfl) (by kernel_rfl) (by kernel_rfl) (by exact fun _ _ _ _ h => h) (V.lss rfl rfl) rfl ?_)
              go_step
              (refine takeV 13 _ al9 (by kernel_rfl) (by kernel_rfl) (by kernel_rfl) (by exact fun _ _ _ _ h => h) (V.notD rfl) rfl ?_)
              go_step
              refine drawn_done (by kernel_rfl) ?_ _
            by_cases hc2 : v < 0
            · skip
              repeat' (first
                | ((with_reducible apply gt9 _ (.move _)); (first | go_big_want | go_step); go_step) | ((with_reducible apply gt9 _ (.assign _)); (first | go_big_want | go_step); go_step) | ((fail_if_success with_reducible apply ga9); go_step))
              go_roundg (h - st)
              case measure => omega
              case rel =>
                refine ⟨st, h, by omega, by omega, by omega, rfl, by go_num, HLO.out, fun k1 => ?_, hS⟩
                have := HV2.out.1 hc2
                rw [← hy]
                exact Int.le_of_lt this
            · skip
              repeat' (first
                | ((with_reducible apply gt9 (some 173) (.binOp .add _ _ _ _)); (refine wplV (.int _ (((h + 1 : Nat) : Int))) (V.as (V.addI rfl rfl (by omega)) (by omega)) rfl ?_; go_step)) | ((with_reducible apply gt9 _ (.move _)); (first | go_big_want | go_step); go_step) | ((with_reducible apply gt9 _ (.assign _)); (first | go_big_want | go_step); go_step) | ((fail_if_success with_reducible apply ga9); go_step))
              go_roundg (r - (h + 1))
              case measure => omega
              case rel =>
                refine ⟨h + 1, r, by omega, by omega, by omega, by go_num, rfl, fun k1 => ?_, HHI.out, hS⟩
                have := HV2.out
                rw [show T - (h + 1) = y by omega, Nat.add_sub_cancel]
                show (elt P h).w ≤ (elt P y).w
                omega
          · obtain rfl : st = r := by omega
            obtain ⟨en, hen⟩ : ∃ en, en = T - st := ⟨_, rfl⟩
            have HLO2 : Hid (a < st → m ≤ en → en < b → wk P (st - 1) ≤ wk P en) := fun k1 k2 k3 => by
              rw [hen]; exact HLO.out (by omega)
            have HHI2 : Hid (m < en → st < m → wk P (en - 1) ≤ wk P st) := fun k1 k2 => by
              rw [show en - 1 = T - 1 - st by omega]; exact HHI.out (by omega)
            clear HLO HHI
            repeat' (first
              | ((with_reducible apply gt9 _ (.move _)); (first | go_big_want | go_step); go_step) | ((with_reducible apply gt9 (some 151) (.binOp .lss _ _ _ _)); (refine wvv9 (V.lss rfl rfl) ?_; go_step)) | ((fail_if_success with_reducible apply ga9); go_step))
            by_cases hrot : st < m ∧ m < en
            · have hrot1 := hrot.1
              have hrot2 := hrot.2
              repeat' (first
                | ((with_reducible apply gt9 (some 177) (.binOp .sub _ _ _ _)); (refine wplV (.int _ (((en : Nat) : Int))) (V.as (V.subI rfl rfl (by omega)) (by omega)) rfl ?_; go_step)) | ((with_reducible apply gt9 _ (.call ⟨.value (.func 109), _, _⟩)); refine wpl_call (f := 109) Tryd.call109 (by kernel_rfl) ?_; refine ⟨_, (rotate_any W _ _ rs' g n c st m en P hS Pull.head hrot1 hrot2 (by omega) hn byW), ?_⟩; rintro e w ⟨rfl, Q, hQ, hS2⟩; replace hS := hS2; clear hS2; refine ⟨_, rfl, ?_⟩; refine put_move ?_; go_step) | ((with_reducible apply gt9 _ (.move _)); (first | go_big_want | go_step); go_step) | ((with_reducible apply gt9 _ (.assign _)); (first | go_big_want | go_step); go_step) | ((with_reducible apply gt9 _ (.pick _ _ _)); (refine wplPickT rfl (by kernel_rfl) ?_; go_step)) | ((with_reducible apply gt9 (some 180) (.binOp .lss _ _ _ _)); (refine wplD _ (V.lss rfl rfl) (by kernel_rfl) (fun hB => ?_) (fun hB => ?_) <;> (try (have hF : False := (by omega); cases hF)) <;> go_step)) | ((with_reducible apply gt9 (some 184) (.binOp .lss _ _ _ _)); (refine wvv9 (V.lss rfl rfl) ?_; go_step)) | ((fail_if_success with_reducible apply ga9); go_step))
              obtain ⟨s1, s2, s3, s4, hx⟩ := sym_parts HA1.out HA2.out ham hmb hmid (show en = mid + m - st by omega) (by omega) (by omega) (by omega) (by omega) (by omega) HLO2.out HHI2.out hQ
              have hQr := hQ.rg (show st ≤ m by omega) (show m ≤ en by omega)
              have hQl := hQr.len
              have HQR := hid (hQr.wide (show a ≤ st by omega) (show en ≤ b by omega) (by omega) (by omega))
              have HX := hid hx
              have S1 := hid s1
              have S2 := hid s2
              have S3 := hid s3
              have S4 := hid s4
              have g1 : a ≤ st := by omega
              have g2 : st ≤ mid := by omega
              have g3 : mid ≤ en := by omega
              have g4 : en ≤ b := by omega
              have g5 : mid - a ≤ N := by omega
              have g6 : b - mid ≤ N := by omega
              have g7 : a < mid := by omega
              have g8 : mid < b := by omega
              have hQn : Q.length = n := by omega
              clear hx s1 s2 s3 s4 hQ hQr HLO2 HHI2 HA1 HA2 F5 HS0a HS0b HR0a HR0b hen hlt hk hst hr f5 f1 f2 f3 f4 hT hmid e1 e2 hc h1' h2' hN hrot hQl hPl hp ham hmb
              by_cases hl : a < st ∧ st < mid
              · obtain ⟨hl1, hl2⟩ := hl
                have hb2 : mid ≤ n := by omega
                have HC := hid (fun (w : World) (hS : St W w (pks g n c Q :: rs')) => IH.out W w (pks g n c Q :: rs') rs' g n c a st mid Q g5 hS Pull.head hl1 hl2 hb2 hn S1.out S2.out)
                repeat' (first
                  | ((with_reducible apply gt9 _ (.call ⟨.value (.func 101), _, _⟩)); refine wpl_call (f := 101) Tryd.call101 (by kernel_rfl) ?_; refine ⟨_, (HC.out _ hS), ?_⟩; rintro e w ⟨rfl, R, hR1, hR2, hS2⟩; replace hS := hS2; clear hS2; refine ⟨_, rfl, ?_⟩; refine put_move ?_; go_step) | ((with_reducible apply gt9 _ (.move _)); (first | go_big_want | go_step); go_step) | ((with_reducible apply gt9 _ (.pick _ _ _)); (refine wplPickT rfl (by kernel_rfl) ?_; go_step)) | ((with_reducible apply gt9 (some 194) (.binOp .lss _ _ _ _)); (refine wplD _ (V.lss rfl rfl) (by kernel_rfl) (fun hB => ?_) (fun hB => ?_) <;> (try (have hF : False := (by omega); cases hF)) <;> go_step)) | ((with_reducible apply gt9 (some 198) (.binOp .lss _ _ _ _)); (refine wvv9 (V.lss rfl rfl) ?_; go_step)) | ((fail_if_success with_reducible apply ga9); go_step))
                have S5 := hid (S3.out.same (Q := R) fun x k1 k2 => hR2.out x (by omega))
                have S6 := hid (S4.out.same (Q := R) fun x k1 k2 => hR2.out x (by omega))
                have R1 := hid hR1
                have R2 := hid hR2
                clear hR1 hR2
                by_cases hr : mid < en ∧ en < b
                · obtain ⟨hr1, hr2⟩ := hr
                  have HC := hid (fun (w : World) (hS : St W w (pks g n c R :: rs')) => IH.out W w (pks g n c R :: rs') rs' g n c mid en b R g6 hS Pull.head hr1 hr2 hb hn S5.out S6.out)
                  repeat' (first
                    | ((with_reducible apply gt9 _ (.call ⟨.value (.func 101), _, _⟩)); refine wpl_call (f := 101) Tryd.call101 (by kernel_rfl) ?_; refine ⟨_, (HC.out _ hS), ?_⟩; rintro e w ⟨rfl, Z, hZ1, hZ2, hS2⟩; replace hS := hS2; clear hS2; refine ⟨_, rfl, ?_⟩; refine put_move ?_; go_step) | ((with_reducible apply gt9 _ (.move _)); (first | go_big_want | go_step); go_step) | ((with_reducible apply gt9 _ (.pick _ _ _)); (refine wplPickT rfl (by kernel_rfl) ?_; go_step)) | ((with_reducible apply gt9 (some 208) (.binOp .lss _ _ _ _)); (refine wplD _ (V.lss rfl rfl) (by kernel_rfl) (fun hB => ?_) (fun hB => ?_) <;> (try (have hF : False := (by omega); cases hF)) <;> go_step)) | ((with_reducible apply gt9 (some 212) (.binOp .lss _ _ _ _)); (refine wvv9 (V.lss rfl rfl) ?_; go_step)) | ((fail_if_success with_reducible apply ga9); go_step))
                  go_end0
                  obtain ⟨j1, j2⟩ := sym_join (show a ≤ mid by omega) (show mid ≤ b by omega) (show b ≤ Q.length by rw [hQn]; exact hb) HX.out R2.out hZ2 R1.out hZ1
                  exact ⟨rfl, Z, j1, HQR.out.trans j2, hS⟩
                · have hZ1 : Asc PkV.w mid b R := by
                    by_cases c1 : mid < en
                    · exact S5.out.sub (Nat.le_refl _) (by omega)
                    · exact S6.out.sub (by omega) (Nat.le_refl _)
                  repeat' (first
                    | go_skip | ((with_reducible apply gt9 _ (.move _)); (first | go_big_want | go_step); go_step) | ((with_reducible apply gt9 _ (.pick _ _ _)); first | (refine wplPickT rfl (by kernel_rfl) ?_; go_step) | (refine wplPickF rfl (by kernel_rfl) ?_; go_step)) | ((with_reducible apply gt9 (some 208) (.binOp .lss _ _ _ _)); (refine wplD _ (V.lss rfl rfl) (by kernel_rfl) (fun hB => ?_) (fun hB => ?_) <;> (try (have hF : False := (by omega); cases hF)) <;> go_step)) | ((with_reducible apply gt9 (some 212) (.binOp .lss _ _ _ _)); (refine wvv9 (V.lss rfl rfl) ?_; go_step)) | ((fail_if_success with_reducible apply ga9); go_step))
                  all_goals
                    go_end0
                    obtain ⟨j1, j2⟩ := sym_join (show a ≤ mid by omega) (show mid ≤ b by omega) (show b ≤ Q.length by rw [hQn]; exact hb) HX.out R2.out (Rg.refl _ _ _) R1.out hZ1
                    exact ⟨rfl, R, j1, HQR.out.trans j2, hS⟩
              · obtain ⟨R, hRe⟩ : ∃ R, R = Q := ⟨Q, rfl⟩
                have hR2 : Rg a mid Q R := by rw [hRe]; exact Rg.refl _ _ _
                have hR1 : Asc PkV.w a mid R := by
                  rw [hRe]
                  by_cases c1 : a < st
                  · exact S1.out.sub (Nat.le_refl _) (by omega)
                  · exact S2.out.sub (by omega) (Nat.le_refl _)
                rw [← hRe] at hS
                repeat' (first
                  | go_skip | ((with_reducible apply gt9 _ (.move _)); (first | go_big_want | go_step); go_step) | ((with_reducible apply gt9 _ (.pick _ _ _)); (refine wplPickF rfl (by kernel_rfl) ?_; go_step)) | ((with_reducible apply gt9 (some 194) (.binOp .lss _ _ _ _)); (refine wplD _ (V.lss rfl rfl) (by kernel_rfl) (fun hB => ?_) (fun hB => ?_) <;> (try (have hF : False := (by omega); cases hF)) <;> go_step)) | ((fail_if_success with_reducible apply ga9); go_step))
                all_goals
                  have S5 := hid (S3.out.same (Q := R) fun x k1 k2 => hR2.out x (by omega))
                  have S6 := hid (S4.out.same (Q := R) fun x k1 k2 => hR2.out x (by omega))
                  have R1 := hid hR1
                  have R2 := hid hR2
                  clear hR1 hR2
                  by_cases hr : mid < en ∧ en < b
                  · obtain ⟨hr1, hr2⟩ := hr
                    have HC := hid (fun (w : World) (hS : St W w (pks g n c R :: rs')) => IH.out W w (pks g n c R :: rs') rs' g n c mid en b R g6 hS Pull.head hr1 hr2 hb hn S5.out S6.out)
                    repeat' (first
                      | ((with_reducible apply gt9 _ (.call ⟨.value (.func 101), _, _⟩)); refine wpl_call (f := 101) Tryd.call101 (by kernel_rfl) ?_; refine ⟨_, (HC.out _ hS), ?_⟩; rintro e w ⟨rfl, Z, hZ1, hZ2, hS2⟩; replace hS := hS2; clear hS2; refine ⟨_, rfl, ?_⟩; refine put_move ?_; go_step) | ((with_reducible apply gt9 _ (.move _)); (first | go_big_want | go_step); go_step) | ((with_reducible apply gt9 _ (.pick _ _ _)); (refine wplPickT rfl (by kernel_rfl) ?_; go_step)) | ((with_reducible apply gt9 (some 208) (.binOp .lss _ _ _ _)); (refine wplD _ (V.lss rfl rfl) (by kernel_rfl) (fun hB => ?_) (fun hB => ?_) <;> (try (have hF : False := (by omega); cases hF)) <;> go_step)) | ((with_reducible apply gt9 (some 212) (.binOp .lss _ _ _ _)); (refine wvv9 (V.lss rfl rfl) ?_; go_step)) | ((fail_if_success with_reducible apply ga9); go_step))
                    go_end0
                    obtain ⟨j1, j2⟩ := sym_join (show a ≤ mid by omega) (show mid ≤ b by omega) (show b ≤ Q.length by rw [hQn]; exact hb) HX.out R2.out hZ2 R1.out hZ1
                    exact ⟨rfl, Z, j1, HQR.out.trans j2, hS⟩
                  · have hZ1 : Asc PkV.w mid b R := by
                      by_cases c1 : mid < en
                      · exact S5.out.sub (Nat.le_refl _) (by omega)
                      · exact S6.out.sub (by omega) (Nat.le_refl _)
                    repeat' (first
                      | go_skip | ((with_reducible apply gt9 _ (.move _)); (first | go_big_want | go_step); go_step) | ((with_reducible apply gt9 _ (.pick _ _ _)); first | (refine wplPickT rfl (by kernel_rfl) ?_; go_step) | (refine wplPickF rfl (by kernel_rfl) ?_; go_step)) | ((with_reducible apply gt9 (some 208) (.binOp .lss _ _ _ _)); (refine wplD _ (V.lss rfl rfl) (by kernel_rfl) (fun hB => ?_) (fun hB => ?_) <;> (try (have hF : False := (by omega); cases hF)) <;> go_step)) | ((with_reducible apply gt9 (some 212) (.binOp .lss _ _ _ _)); (refine wvv9 (V.lss rfl rfl) ?_; go_step)) | ((fail_if_success with_reducible apply ga9); go_step))
                    all_goals
                      go_end0
                      obtain ⟨j1, j2⟩ := sym_join (show a ≤ mid by omega) (show mid ≤ b by omega) (show b ≤ Q.length by rw [hQn]; exact hb) HX.out R2.out (Rg.refl _ _ _) R1.out hZ1
                      exact ⟨rfl, R, j1, HQR.out.trans j2, hS⟩
            · obtain ⟨Q, hQe, hQ⟩ : ∃ Q, Q = P ∧ Rot st m en P Q := ⟨P, rfl, Rot.triv (by omega) (by omega) (by omega) (by omega)⟩
              rw [← hQe] at hS
              repeat' (first
                | ((with_reducible apply gt9 (some 177) (.binOp .sub _ _ _ _)); (refine wplV (.int _ (((en : Nat) : Int))) (V.as (V.subI rfl rfl (by omega)) (by omega)) rfl ?_; go_step)) | go_skip | ((with_reducible apply gt9 _ (.move _)); (first | go_big_want | go_step); go_step) | ((with_reducible apply gt9 _ (.assign _)); (first | go_big_want | go_step); go_step) | ((with_reducible apply gt9 _ (.pick _ _ _)); (refine wplPickF rfl (by kernel_rfl) ?_; go_step)) | ((with_reducible apply gt9 (some 180) (.binOp .lss _ _ _ _)); (refine wplD _ (V.lss rfl rfl) (by kernel_rfl) (fun hB => ?_) (fun hB => ?_) <;> (try (have hF : False := (by omega); cases hF)) <;> go_step)) | ((fail_if_success with_reducible apply ga9); go_step))
              all_goals
                obtain ⟨s1, s2, s3, s4, hx⟩ := sym_parts HA1.out HA2.out ham hmb hmid (show en = mid + m - st by omega) (by omega) (by omega) (by omega) (by omega) (by omega) HLO2.out HHI2.out hQ
                have hQr := hQ.rg (show st ≤ m by omega) (show m ≤ en by omega)
                have hQl := hQr.len
                have HQR := hid (hQr.wide (show a ≤ st by omega) (show en ≤ b by omega) (by omega) (by omega))
                have HX := hid hx
                have S1 := hid s1
                have S2 := hid s2
                have S3 := hid s3
                have S4 := hid s4
                have g1 : a ≤ st := by omega
                have g2 : st ≤ mid := by omega
                have g3 : mid ≤ en := by omega
                have g4 : en ≤ b := by omega
                have g5 : mid - a ≤ N := by omega
                have g6 : b - mid ≤ N := by omega
                have g7 : a < mid := by omega
                have g8 : mid < b := by omega
                have hQn : Q.length = n := by omega
                clear hx s1 s2 s3 s4 hQ hQr HLO2 HHI2 HA1 HA2 F5 HS0a HS0b HR0a HR0b hen hlt hk hst hr f5 f1 f2 f3 f4 hT hmid e1 e2 hc h1' h2' hN hrot hQl hPl hp ham hmb
                by_cases hl : a < st ∧ st < mid
                · obtain ⟨hl1, hl2⟩ := hl
                  have hb2 : mid ≤ n := by omega
                  have HC := hid (fun (w : World) (hS : St W w (pks g n c Q :: rs')) => IH.out W w (pks g n c Q :: rs') rs' g n c a st mid Q g5 hS Pull.head hl1 hl2 hb2 hn S1.out S2.out)
                  repeat' (first
                    | ((with_reducible apply gt9 _ (.call ⟨.value (.func 101), _, _⟩)); refine wpl_call (f := 101) Tryd.call101 (by kernel_rfl) ?_; refine ⟨_, (HC.out _ hS), ?_⟩; rintro e w ⟨rfl, R, hR1, hR2, hS2⟩; replace hS := hS2; clear hS2; refine ⟨_, rfl, ?_⟩; refine put_move ?_; go_step) | ((with_reducible apply gt9 _ (.move _)); (first | go_big_want | go_step); go_step) | ((with_reducible apply gt9 _ (.pick _ _ _)); (refine wplPickT rfl (by kernel_rfl) ?_; go_step)) | ((with_reducible apply gt9 (some 194) (.binOp .lss _ _ _ _)); (refine wplD _ (V.lss rfl rfl) (by kernel_rfl) (fun hB => ?_) (fun hB => ?_) <;> (try (have hF : False := (by omega); cases hF)) <;> go_step)) | ((with_reducible apply gt9 (some 198) (.binOp .lss _ _ _ _)); (refine wvv9 (V.lss rfl rfl) ?_; go_step)) | ((fail_if_success with_reducible apply ga9); go_step))
                  have S5 := hid (S3.out.same (Q := R) fun x k1 k2 => hR2.out x (by omega))
                  have S6 := hid (S4.out.same (Q := R) fun x k1 k2 => hR2.out x (by omega))
                  have R1 := hid hR1
                  have R2 := hid hR2
                  clear hR1 hR2
                  by_cases hr : mid < en ∧ en < b
                  · obtain ⟨hr1, hr2⟩ := hr
                    have HC := hid (fun (w : World) (hS : St W w (pks g n c R :: rs')) => IH.out W w (pks g n c R :: rs') rs' g n c mid en b R g6 hS Pull.head hr1 hr2 hb hn S5.out S6.out)
                    repeat' (first
                      | ((with_reducible apply gt9 _ (.call ⟨.value (.func 101), _, _⟩)); refine wpl_call (f := 101) Tryd.call101 (by kernel_rfl) ?_; refine ⟨_, (HC.out _ hS), ?_⟩; rintro e w ⟨rfl, Z, hZ1, hZ2, hS2⟩; replace hS := hS2; clear hS2; refine ⟨_, rfl, ?_⟩; refine put_move ?_; go_step) | ((with_reducible apply gt9 _ (.move _)); (first | go_big_want | go_step); go_step) | ((with_reducible apply gt9 _ (.pick _ _ _)); (refine wplPickT rfl (by kernel_rfl) ?_; go_step)) | ((with_reducible apply gt9 (some 208) (.binOp .lss _ _ _ _)); (refine wplD _ (V.lss rfl rfl) (by kernel_rfl) (fun hB => ?_) (fun hB => ?_) <;> (try (have hF : False := (by omega); cases hF)) <;> go_step)) | ((with_reducible apply gt9 (some 212) (.binOp .lss _ _ _ _)); (refine wvv9 (V.lss rfl rfl) ?_; go_step)) | ((fail_if_success with_reducible apply ga9); go_step))
                    go_end0
                    obtain ⟨j1, j2⟩ := sym_join (show a ≤ mid by omega) (show mid ≤ b by omega) (show b ≤ Q.length by rw [hQn]; exact hb) HX.out R2.out hZ2 R1.out hZ1
                    exact ⟨rfl, Z, j1, HQR.out.trans j2, hS⟩
                  · have hZ1 : Asc PkV.w mid b R := by
                      by_cases c1 : mid < en
                      · exact S5.out.sub (Nat.le_refl _) (by omega)
                      · exact S6.out.sub (by omega) (Nat.le_refl _)
                    repeat' (first
                      | go_skip | ((with_reducible apply gt9 _ (.move _)); (first | go_big_want | go_step); go_step) | ((with_reducible apply gt9 _ (.pick _ _ _)); first | (refine wplPickT rfl (by kernel_rfl) ?_; go_step) | (refine wplPickF rfl (by kernel_rfl) ?_; go_step)) | ((with_reducible apply gt9 (some 208) (.binOp .lss _ _ _ _)); (refine wplD _ (V.lss rfl rfl) (by kernel_rfl) (fun hB => ?_) (fun hB => ?_) <;> (try (have hF : False := (by omega); cases hF)) <;> go_step)) | ((with_reducible apply gt9 (some 212) (.binOp .lss _ _ _ _)); (refine wvv9 (V.lss rfl rfl) ?_; go_step)) | ((fail_if_success with_reducible apply ga9); go_step))
                    all_goals
                      go_end0
                      obtain ⟨j1, j2⟩ := sym_join (show a ≤ mid by omega) (show mid ≤ b by omega) (show b ≤ Q.length by rw [hQn]; exact hb) HX.out R2.out (Rg.refl _ _ _) R1.out hZ1
                      exact ⟨rfl, R, j1, HQR.out.trans j2, hS⟩
                · obtain ⟨R, hRe⟩ : ∃ R, R = Q := ⟨Q, rfl⟩
                  have hR2 : Rg a mid Q R := by rw [hRe]; exact Rg.refl _ _ _
                  have hR1 : Asc PkV.w a mid R := by
                    rw [hRe]
                    by_cases c1 : a < st
                    · exact S1.out.sub (Nat.le_refl _) (by omega)
                    · exact S2.out.sub (by omega) (Nat.le_refl _)
                  rw [← hRe] at hS
                  repeat' (first
                    | go_skip | ((with_reducible apply gt9 _ (.move _)); (first | go_big_want | go_step); go_step) | ((with_reducible apply gt9 _ (.pick _ _ _)); first | (refine wplPickT rfl (by kernel_rfl) ?_; go_step) | (refine wplPickF rfl (by kernel_rfl) ?_; go_step)) | ((with_reducible apply gt9 (some 194) (.binOp .lss _ _ _ _)); (refine wplD _ (V.lss rfl rfl) (by kernel_rfl) (fun hB => ?_) (fun hB => ?_) <;> (try (have hF : False := (by omega); cases hF)) <;> go_step)) | ((with_reducible apply gt9 (some 198) (.binOp .lss _ _ _ _)); (refine wvv9 (V.lss rfl rfl) ?_; go_step)) | ((fail_if_success with_reducible apply ga9); go_step))
                  all_goals
                    have S5 := hid (S3.out.same (Q := R) fun x k1 k2 => hR2.out x (by omega))
                    have S6 := hid (S4.out.same (Q := R) fun x k1 k2 => hR2.out x (by omega))
                    have R1 := hid hR1
                    have R2 := hid hR2
                    clear hR1 hR2
                    by_cases hr : mid < en ∧ en < b
                    · obtain ⟨hr1, hr2⟩ := hr
                      have HC := hid (fun (w : World) (hS : St W w (pks g n c R :: rs')) => IH.out W w (pks g n c R :: rs') rs' g n c mid en b R g6 hS Pull.head hr1 hr2 hb hn S5.out S6.out)
                      repeat' (first
                        | ((with_reducible apply gt9 _ (.call ⟨.value (.func 101), _, _⟩)); refine wpl_call (f := 101) Tryd.call101 (by kernel_rfl) ?_; refine ⟨_, (HC.out _ hS), ?_⟩; rintro e w ⟨rfl, Z, hZ1, hZ2, hS2⟩; replace hS := hS2; clear hS2; refine ⟨_, rfl, ?_⟩; refine put_move ?_; go_step) | ((with_reducible apply gt9 _ (.move _)); (first | go_big_want | go_step); go_step) | ((with_reducible apply gt9 _ (.pick _ _ _)); (refine wplPickT rfl (by kernel_rfl) ?_; go_step)) | ((with_reducible apply gt9 (some 208) (.binOp .lss _ _ _ _)); (refine wplD _ (V.lss rfl rfl) (by kernel_rfl) (fun hB => ?_) (fun hB => ?_) <;> (try (have hF : False := (by omega); cases hF)) <;> go_step)) | ((with_reducible apply gt9 (some 212) (.binOp .lss _ _ _ _)); (refine wvv9 (V.lss rfl rfl) ?_; go_step)) | ((fail_if_success with_reducible apply ga9); go_step))
                      go_end0
                      obtain ⟨j1, j2⟩ := sym_join (show a ≤ mid by omega) (show mid ≤ b by omega) (show b ≤ Q.length by rw [hQn]; exact hb) HX.out R2.out hZ2 R1.out hZ1
                      exact ⟨rfl, Z, j1, HQR.out.trans j2, hS⟩
                    · have hZ1 : Asc PkV.w mid b R := by
                        by_cases c1 : mid < en
                        · exact S5.out.sub (Nat.le_refl _) (by omega)
                        · exact S6.out.sub (by omega) (Nat.le_refl _)
                      repeat' (first
                        | go_skip | ((with_reducible apply gt9 _ (.move _)); (first | go_big_want | go_step); go_step) | ((with_reducible apply gt9 _ (.pick _ _ _)); first | (refine wplPickT rfl (by kernel_rfl) ?_; go_step) | (refine wplPickF rfl (by kernel_rfl) ?_; go_step)) | ((with_reducible apply gt9 (some 208) (.binOp .lss _ _ _ _)); (refine wplD _ (V.lss rfl rfl) (by kernel_rfl) (fun hB => ?_) (fun hB => ?_) <;> (try (have hF : False := (by omega); cases hF)) <;> go_step)) | ((with_reducible apply gt9 (some 212) (.binOp .lss _ _ _ _)); (refine wvv9 (V.lss rfl rfl) ?_; go_step)) | ((fail_if_success with_reducible apply ga9); go_step))
                      all_goals
                        go_end0
                        obtain ⟨j1, j2⟩ := sym_join (show a ≤ mid by omega) (show mid ≤ b by omega) (show b ≤ Q.length by rw [hQn]; exact hb) HX.out R2.out (Rg.refl _ _ _) R1.out hZ1
                        exact ⟨rfl, R, j1, HQR.out.trans j2, hS⟩
end Go.Proofs.YtehbjhocgnfpmaaDoor

/- The walk of slices.SortStableFunc. -/
namespace Go.Proofs.YtehbjhocgnfpmaaDoor
set_option maxRecDepth 100000
open Go.RowKit
set_option linter.unusedVariables false
theorem asc_void {lo hi : Nat} {P : List PkV} (h : hi ≤ lo) : Asc PkV.w lo hi P := fun i j h1 h2 h3 => by omega
theorem asc_eq {lo hi lo' hi' : Nat} {P : List PkV} (h : Asc PkV.w lo hi P) (h1 : lo = lo') (h2 : hi' ≤ hi) : Asc PkV.w lo' hi' P := by subst h1; exact h.sub (Nat.le_refl _) h2
/-- Blocks of s are sorted, each by itself. -/
def Blks (s n : Nat) (P : List PkV) : Prop := ∀ k, Asc PkV.w (k * s) (min (k * s + s) n) P
set_option maxRecDepth 100000 in
set_option maxHeartbeats 8000000 in
theorem stable_any (W w0 : World) (rs rs' : List Res) (g n c : Nat) (P : List PkV) (hS : St W w0 rs) (hp : Pull (pks g n c P) rs rs') (hn : n ≤ 100000) :
    Calls Tryd.prog 84 #[.slice (some ⟨g, 0, none⟩) n c, .int .i64 n, byW] w0 fun e w => e = .returned (.tuple #[]) ∧ ∃ Q, Asc PkV.w 0 n Q ∧ Rg 0 n P Q ∧ St W w (pks g n c Q :: rs') := by
  replace hS := hS.pull hp
  have hPl := own_recs hS Pull.head pkE_len (by decide)
  clear hp
  go_enter Tryd.func84, Tryd.ntmps84
  repeat' (first
    | ((with_reducible apply gt9 _ (.move _)); (first | go_big_want | go_step); go_step) | ((with_reducible apply gt9 _ (.assign _)); (first | go_big_want | go_step); go_step) | ((fail_if_success with_reducible apply ga9); go_step))
  go_loopg [7, 8] n (fun gk av bv w => ∃ (k a : Nat) (Q : List PkV), gk + k = n ∧ a = k * 20 ∧ a ≤ n ∧ av = .int .i64 a ∧ bv = .int .i64 (a + 20 : Nat) ∧ (∀ j, j < k → Asc PkV.w (j * 20) (j * 20 + 20) Q) ∧ Rg 0 n P Q ∧ St W w (pks g n c Q :: rs'))
  case atStart => exact ⟨0, 0, P, by omega, rfl, by omega, rfl, rfl, fun j h => by omega, Rg.refl _ _ _, hS⟩
  case round =>
    clear hS
    obtain ⟨k, a, Q, hk, ha, han, rfl, rfl, hA, hR, hS⟩ := hrel
    have HA := hid hA
    have HR := hid hR
    have hQl := hR.len
    clear hA hR
    by_cases hlt : a + 20 ≤ n
    · have HC := hid (fun (w : World) (hS : St W w (pks g n c Q :: rs')) => insSort_any W w (pks g n c Q :: rs') rs' g n c a (a + 20) Q hS Pull.head (by omega) hlt (by omega))
      repeat' (first
        | ((with_reducible apply gt9 (some 22) (.binOp .add _ _ _ _)); (refine wplV (.int _ (((a + 20 + 20 : Nat) : Int))) (V.as (V.addI rfl rfl (by omega)) (by omega)) rfl ?_; go_step)) | ((with_reducible apply gt9 _ (.call ⟨.value (.func 100), _, _⟩)); refine wpl_call (f := 100) Tryd.call100 (by kernel_rfl) ?_; refine ⟨_, (HC.out _ hS), ?_⟩; rintro e w ⟨rfl, Z, hZ1, hZ2, hS2⟩; replace hS := hS2; clear hS2; refine ⟨_, rfl, ?_⟩; refine put_move ?_; go_step) | ((with_reducible apply gt9 _ (.move _)); (first | go_big_want | go_step); go_step) | ((with_reducible apply gt9 _ (.assign _)); (first | go_big_want | go_step); go_step) | ((with_reducible apply gt9 (some 13) (.binOp .leq _ _ _ _)); (refine wvv9 (V.leq rfl rfl) ?_; go_step)) | ((fail_if_success with_reducible apply ga9); go_step))
      go_roundg (gk - 1)
      case measure => omega
      case rel =>
        refine ⟨k + 1, a + 20, Z, by omega, by omega, by omega, rfl, by go_num, fun j hj => ?_, HR.out.trans (hZ2.wide (by omega) (by omega) (by omega) (by omega)), hS⟩
        by_cases hjk : j = k
        · subst hjk; rw [← ha]; exact hZ1
        · exact (HA.out j (by omega)).same fun x k1 k2 => hZ2.out x (by omega)
    · have HC := hid (fun (w : World) (hS : St W w (pks g n c Q :: rs')) => insSort_any W w (pks g n c Q :: rs') rs' g n c a n Q hS Pull.head (by omega) (by omega) (by omega))
      repeat' (first
        | ((with_reducible apply gt9 _ (.move _)); (first | go_big_want | go_step); go_step) | ((with_reducible apply gt9 (some 13) (.binOp .leq _ _ _ _)); (refine wvv9 (V.leq rfl rfl) ?_; go_step)) | ((fail_if_success with_reducible apply ga9); go_step))
      repeat' (first
        | ((with_reducible apply gt9 _ (.call ⟨.value (.func 100), _, _⟩)); refine wpl_call (f := 100) Tryd.call100 (by kernel_rfl) ?_; refine ⟨_, (HC.out _ hS), ?_⟩; rintro e w ⟨rfl, Z, hZ1, hZ2, hS2⟩; replace hS := hS2; clear hS2; refine ⟨_, rfl, ?_⟩; refine put_move ?_; go_step) | ((fail_if_success with_reducible apply ga9); go_step))
      have hB : Blks 20 n Z := fun j => by
        by_cases h1 : j < k
        · exact ((HA.out j h1).same fun x k1 k2 => hZ2.out x (by omega)).sub (Nat.le_refl _) (Nat.min_le_left _ _)
        · by_cases h2 : j = k
          · subst h2; rw [← ha]; exact hZ1.sub (Nat.le_refl _) (Nat.min_le_right _ _)
          · exact asc_void (by omega)
      have hRZ : Rg 0 n P Z := HR.out.trans (hZ2.wide (by omega) (by omega) (by omega) (by omega))
      have HB := hid hB
      have HRZ := hid hRZ
      clear hB hRZ HR HA HC hZ1 hZ2
      go_loopg [6] (n - 20) (fun gk sv w => ∃ (s : Nat) (Q : List PkV), gk + s = max n s ∧ 1 ≤ s ∧ s ≤ 2 * n + 20 ∧ sv = .int .i64 s ∧ Blks s n Q ∧ Rg 0 n P Q ∧ St W w (pks g n c Q :: rs'))
      case atStart => exact ⟨20, Z, by omega, by omega, by omega, rfl, HB.out, HRZ.out, hS⟩
      case round =>
        clear hS HB HRZ
        obtain ⟨s, Q, hk, hs1, hs2, rfl, hB, hR, hS⟩ := hrel
        have HB := hid hB
        have HR := hid hR
        have hQl := hR.len
        clear hB hR
        by_cases hlt2 : s < n
        · obtain ⟨gk1, hgk1⟩ : ∃ x, x = gk := ⟨_, rfl⟩
          subst hgk1
          obtain ⟨t, ht⟩ : ∃ t, t = 2 * s := ⟨_, rfl⟩
          repeat' (first
            | ((with_reducible apply gt9 (some 32) (.binOp .mul _ _ _ _)); (refine wplV (.int _ (((t : Nat) : Int))) (V.as (V.mulI rfl rfl (by omega)) (by omega)) rfl ?_; go_step)) | ((with_reducible apply gt9 _ (.move _)); (first | go_big_want | go_step); go_step) | ((with_reducible apply gt9 _ (.assign _)); (first | go_big_want | go_step); go_step) | ((with_reducible apply gt9 (some 30) (.binOp .lss _ _ _ _)); (refine wvv9 (V.lss rfl rfl) ?_; go_step)) | ((fail_if_success with_reducible apply ga9); go_step))
          go_loopg [7, 8] n (fun gk av bv w => ∃ (k a : Nat) (Q : List PkV), gk + k = n ∧ a = k * t ∧ a ≤ n ∧ av = .int .i64 a ∧ bv = .int .i64 (a + t : Nat) ∧ (∀ j, j < k → Asc PkV.w (j * t) (j * t + t) Q) ∧ (∀ j, 2 * k ≤ j → Asc PkV.w (j * s) (min (j * s + s) n) Q) ∧ Rg 0 n P Q ∧ St W w (pks g n c Q :: rs'))
          case atStart => exact ⟨0, 0, Q, by omega, by omega, by omega, rfl, by rw [Nat.zero_add], fun j h => by omega, fun j _ => HB.out j, HR.out, hS⟩
          case round =>
            clear hS HB HR
            obtain ⟨k, a, Q, hk3, ha, han, rfl, rfl, hA, hA2, hR, hS⟩ := hrel
            have hQl := hR.len
            have m1 : 2 * k * s = a := by rw [ha, ht, Nat.mul_comm 2 k, Nat.mul_assoc]
            have m2 : (2 * k + 1) * s = a + s := by rw [Nat.add_mul, m1, Nat.one_mul]
            have m3 : (k + 1) * t = a + t := by rw [Nat.add_mul, Nat.one_mul, ← ha]
            have m4 : ∀ j, 2 * k + 2 ≤ j → a + t ≤ j * s := fun j hj => by
              have := Nat.mul_le_mul_right s hj
              rw [show (2 * k + 2) * s = a + t by rw [Nat.add_mul, m1, ht]] at this
              exact this
            have m5 : ∀ j, j < k → j * t + t ≤ a := fun j hj => by
              have := Nat.mul_le_mul_right t hj
              rw [Nat.succ_mul, ← ha] at this
              exact this
            have m6 : ∀ j, k < j → a + t ≤ j * t := fun j hj => by
              have := Nat.mul_le_mul_right t hj
              rw [show (k.succ) * t = a + t from m3] at this
              exact this
            have hkt : k ≤ k * t := Nat.le_mul_of_pos_right k (by omega)
            rw [← ha] at hkt
            have a1 := hA2 (2 * k) (Nat.le_refl _)
            have a2 := hA2 (2 * k + 1) (by omega)
            rw [m1] at a1
            rw [m2] at a2
            have HA := hid hA
            have HA2 := hid hA2
            have HR := hid hR
            have M3 := hid m3
            have M4 := hid m4
            have M5 := hid m5
            have M6 := hid m6
            have Ha := hid ha
            clear hA hA2 hR m1 m2 m3 m4 m5 m6 ha
            by_cases hlt : a + t ≤ n
            · have HC := hid (fun (w : World) (hS : St W w (pks g n c Q :: rs')) => symMerge_any n W w (pks g n c Q :: rs') rs' g n c a (a + s) (a + t) Q (by omega) hS Pull.head (by omega) (by omega) hlt (by omega) (asc_eq a1 rfl (by omega)) (asc_eq a2 rfl (by omega)))
              clear a1 a2
              repeat' (first
                | ((with_reducible apply gt9 (some 40) (.binOp .add _ _ _ _)); (refine wplV (.int _ (((a + s : Nat) : Int))) (V.as (V.addI rfl rfl (by omega)) (by omega)) rfl ?_; go_step)) | ((with_reducible apply gt9 (some 47) (.binOp .mul _ _ _ _)); (refine wplV (.int _ (((t : Nat) : Int))) (V.as (V.mulI rfl rfl (by omega)) (by omega)) rfl ?_; go_step)) | ((with_reducible apply gt9 (some 48) (.binOp .add _ _ _ _)); (refine wplV (.int _ (((a + t + t : Nat) : Int))) (V.as (V.addI rfl rfl (by omega)) (by omega)) rfl ?_; go_step)) | ((with_reducible apply gt9 _ (.call ⟨.value (.func 101), _, _⟩)); refine wpl_call (f := 101) Tryd.call101 (by kernel_rfl) ?_; refine ⟨_, (HC.out _ hS), ?_⟩; rintro e w ⟨rfl, Z, hZ1, hZ2, hS2⟩; replace hS := hS2; clear hS2; refine ⟨_, rfl, ?_⟩; refine put_move ?_; go_step) | ((with_reducible apply gt9 _ (.move _)); (first | go_big_want | go_step); go_step) | ((with_reducible apply gt9 _ (.assign _)); (first | go_big_want | go_step); go_step) | ((with_reducible apply gt9 (some 35) (.binOp .leq _ _ _ _)); (refine wvv9 (V.leq rfl rfl) ?_; go_step)) | ((fail_if_success with_reducible apply ga9); go_step))
              go_roundg (gk - 1)
              case measure => omega
              case rel =>
                refine ⟨k + 1, a + t, Z, by omega, M3.out.symm, by omega, rfl, by go_num, fun j hj => ?_, fun j hj => ?_, HR.out.trans (hZ2.wide (by omega) (by omega) (by omega) (by omega)), hS⟩
                · by_cases hjk : j = k
                  · subst hjk; rw [← Ha.out]; exact hZ1
                  · have := M5.out j (by omega)
                    exact (HA.out j (by omega)).same fun x k1 k2 => hZ2.out x (by omega)
                · have := M4.out j (by omega)
                  exact (HA2.out j (by omega)).same fun x k1 k2 => hZ2.out x (by omega)
            · have HF : Hid (∀ Z, Asc PkV.w a n Z → Rg a n Q Z → Blks t n Z ∧ Rg 0 n P Z) := fun Z hZ1 hZ2 => ⟨fun j => by
                by_cases h1 : j < k
                · have := M5.out j h1
                  exact ((HA.out j h1).same fun x k1 k2 => hZ2.out x (by omega)).sub (Nat.le_refl _) (Nat.min_le_left _ _)
                · by_cases h2 : j = k
                  · subst h2; rw [← Ha.out]; exact hZ1.sub (Nat.le_refl _) (Nat.min_le_right _ _)
                  · have := M6.out j (by omega)
                    exact asc_void (by omega), HR.out.trans (hZ2.wide (by omega) (by omega) (by omega) (by omega))⟩
              by_cases hm : a + s < n
              · have HC := hid (fun (w : World) (hS : St W w (pks g n c Q :: rs')) => symMerge_any n W w (pks g n c Q :: rs') rs' g n c a (a + s) n Q (by omega) hS Pull.head (by omega) hm (by omega) (by omega) (asc_eq a1 rfl (by omega)) (asc_eq a2 rfl (by omega)))
                clear a1 a2
                repeat' (first
                  | ((with_reducible apply gt9 _ (.move _)); (first | go_big_want | go_step); go_step) | ((with_reducible apply gt9 (some 35) (.binOp .leq _ _ _ _)); (refine wvv9 (V.leq rfl rfl) ?_; go_step)) | ((fail_if_success with_reducible apply ga9); go_step))
                repeat' (first
                  | ((with_reducible apply gt9 (some 51) (.binOp .add _ _ _ _)); (refine wplV (.int _ (((a + s : Nat) : Int))) (V.as (V.addI rfl rfl (by omega)) (by omega)) rfl ?_; go_step)) | ((with_reducible apply gt9 (some 62) (.binOp .mul _ _ _ _)); (refine wplV (.int _ (((t : Nat) : Int))) (V.as (V.mulI rfl rfl (by omega)) (by omega)) rfl ?_; go_step)) | ((with_reducible apply gt9 _ (.call ⟨.value (.func 101), _, _⟩)); refine wpl_call (f := 101) Tryd.call101 (by kernel_rfl) ?_; refine ⟨_, (HC.out _ hS), ?_⟩; rintro e w ⟨rfl, Z, hZ1, hZ2, hS2⟩; replace hS := hS2; clear hS2; refine ⟨_, rfl, ?_⟩; refine put_move ?_; go_step) | ((with_reducible apply gt9 _ (.move _)); (first | go_big_want | go_step); go_step) | ((with_reducible apply gt9 _ (.assign _)); (first | go_big_want | go_step); go_step) | ((with_reducible apply gt9 (some 54) (.binOp .lss _ _ _ _)); (refine wvv9 (V.lss rfl rfl) ?_; go_step)) | ((fail_if_success with_reducible apply ga9); go_step))
                obtain ⟨b1, b2⟩ := HF.out Z hZ1 hZ2
                go_roundg (n - t)
                case measure => omega
                case rel => exact ⟨t, Z, by omega, by omega, by omega, by go_num, b1, b2, hS⟩
              · obtain ⟨b1, b2⟩ := HF.out Q (asc_eq a1 rfl (by omega)) (Rg.refl _ _ _)
                have B1 := hid b1
                have B2 := hid b2
                clear a1 a2 b1 b2
                repeat' (first
                  | ((with_reducible apply gt9 _ (.move _)); (first | go_big_want | go_step); go_step) | ((with_reducible apply gt9 (some 35) (.binOp .leq _ _ _ _)); (refine wvv9 (V.leq rfl rfl) ?_; go_step)) | ((fail_if_success with_reducible apply ga9); go_step))
                repeat' (first
                  | ((with_reducible apply gt9 (some 51) (.binOp .add _ _ _ _)); (refine wplV (.int _ (((a + s : Nat) : Int))) (V.as (V.addI rfl rfl (by omega)) (by omega)) rfl ?_; go_step)) | ((with_reducible apply gt9 _ (.move _)); (first | go_big_want | go_step); go_step) | ((with_reducible apply gt9 _ (.assign _)); (first | go_big_want | go_step); go_step) | ((with_reducible apply gt9 (some 54) (.binOp .lss _ _ _ _)); (refine wvv9 (V.lss rfl rfl) ?_; go_step)) | ((fail_if_success with_reducible apply ga9); go_step))
                repeat' (first
                  | ((with_reducible apply gt9 (some 62) (.binOp .mul _ _ _ _)); (refine wplV (.int _ (((t : Nat) : Int))) (V.as (V.mulI rfl rfl (by omega)) (by omega)) rfl ?_; go_step)) | ((with_reducible apply gt9 _ (.assign _)); (first | go_big_want | go_step); go_step) | ((fail_if_success with_reducible apply ga9); go_step))
                go_roundg (n - t)
                case measure => omega
                case rel => exact ⟨t, Q, by omega, by omega, by omega, by go_num, B1.out, B2.out, hS⟩
        · skip
          repeat' (first
            | ((with_reducible apply gt9 _ (.move _)); (first | go_big_want | go_step); go_step) | ((with_reducible apply gt9 (some 30) (.binOp .lss _ _ _ _)); (refine wvv9 (V.lss rfl rfl) ?_; go_step)) | ((fail_if_success with_reducible apply ga9); go_step))
          go_end0
          have := HB.out 0
          rw [Nat.zero_mul, Nat.zero_add] at this
          exact ⟨rfl, Q, this.sub (Nat.le_refl _) (by omega), HR.out, hS⟩
theorem sortStable_any (W w0 : World) (rs rs' : List Res) (g n c : Nat) (P : List PkV) (hS : St W w0 rs) (hp : Pull (pks g n c P) rs rs') (hn : n ≤ 100000) :
    Calls Tryd.prog 66 #[.slice (some ⟨g, 0, none⟩) n c, byW] w0 fun e w => e = .returned (.tuple #[]) ∧ ∃ Q, Q.Perm P ∧ Q.Pairwise (fun a b => a.w ≤ b.w) ∧ St W w (pks g n c Q :: rs') := by
  replace hS := hS.pull hp
  have hPl := own_recs hS Pull.head pkE_len (by decide)
  have HC := hid (fun (w : World) (hS : St W w (pks g n c P :: rs')) => stable_any W w (pks g n c P :: rs') rs' g n c P hS Pull.head hn)
  clear hp
  go_enter Tryd.func66, Tryd.ntmps66
  repeat' (first
    | ((with_reducible apply gt9 _ (.call ⟨.value (.func 84), _, _⟩)); refine wpl_call (f := 84) Tryd.call84 (by kernel_rfl) ?_; refine ⟨_, (HC.out _ hS), ?_⟩; rintro e w ⟨rfl, Z, hZ1, hZ2, hS2⟩; replace hS := hS2; clear hS2; refine ⟨_, rfl, ?_⟩; refine put_move ?_; go_step) | ((with_reducible apply gt9 _ (.move _)); (first | go_big_want | go_step); go_step) | ((with_reducible apply gt9 _ (.call ⟨.builtin .len, _, _⟩)); (refine wvv9 (V.len Tryd.underlying134 rfl) ?_; go_step)) | ((fail_if_success with_reducible apply ga9); go_step))
  go_end0
  rw [← hPl] at hZ1 hZ2
  have hl := hZ2.len
  exact ⟨rfl, Z, hZ2.all, Asc.pair (hl.symm ▸ hZ1), hS⟩
end Go.Proofs.YtehbjhocgnfpmaaDoor

/- slices.Grow of nil, slices.Concat of two rows of ints, slices.Clone of packs. -/
namespace Go.Proofs.YtehbjhocgnfpmaaDoor
set_option maxRecDepth 100000
open Go.RowKit
set_option linter.unusedVariables false
theorem cutAt_zero (g c s : Nat) : cutAt (some ⟨g, 0, none⟩) c 0 s = some ⟨g, 0, none⟩ := by
  unfold cutAt
  split
  · rfl
  · rw [Option.map_some, Addr.add_mid, Nat.zero_mul]
section
variable {P : Program} {W w : World} {rs rs' : List Res} {Q : Exit → Act → World → Prop} {K : Act → World → Prop} {o : Oper} {a : Act}
/-- append of so many noughts to nil, of which none is kept: room alone. -/
theorem wp_appendZ (hS : St W w rs) (s x : Operand) (t tn : TypeId) (ho : o.op = .call { callee := .builtin .append, args := #[s, x], argTypes := #[t, tn] }) (e : TypeId) (b : Nat) (k : IntKind) (el : ElemZ P t e k 1 b) (kn : IntKind) (htn : P.underlying tn = some (.int kn))
    (hs : a.eval s = .slice none 0 0) (k2 : IntKind) (n : Nat) (hx : a.eval x = .int k2 n) (h0 : 0 < n) (h63 : n ≤ maxLen) (hb : n * b ≤ 281474976710656)
    (h : ∀ g c' w', n ≤ c' → c' ≤ maxLen → St W w' (own e 1 (some ⟨g, 0, none⟩) 0 c' [] :: rs) → K (a.put o.dst (.slice (some ⟨g, 0, none⟩) n c')) w') : o.wp P a w K Q := by
  obtain ⟨ht, ⟨i, z, hi, hz, hsz, hby, hzc⟩, _⟩ := el
  have hr := Lib.run_append_nil_zeros (P := P) w t tn o.type e i z k2 kn ht htn hi hz n h0 (by omega) (by unfold maxLen at h63; omega) (by rw [hby]; exact hb)
  have hg1 := grownCap_ge w n 0 e
  have hg2 := grownCap_le_maxLen w n 0 e h63
  obtain ⟨G, hG⟩ : ∃ G, grownCap w n 0 e = G := ⟨_, rfl⟩
  rw [hG] at hr hg1 hg2
  refine Lib.wp_append_run w s x t tn ho _ _ hs hx _ _ hr (h _ _ _ hg1 hg2 ?_)
  have hS2 := hS.drew
  obtain ⟨h1, f, h2, h3, h4⟩ := hS2
  refine ⟨h1.alloc _, w.heap.size :: f, List.nodup_cons.2 ⟨fun hm => by have := h4.lt _ hm; exact absurd this (Nat.lt_irrefl _), h2⟩, fun b hb => ?_, [w.heap.size], f, rfl, ⟨rfl, rfl, .inr ⟨w.heap.size, G, _, rfl, Nat.zero_le _, heap_alloc_new w.drew _, Nat.zero_le _, hg2, ?_, by simp⟩⟩, h4.loc fun b hb => ?_⟩
  · rcases List.mem_cons.1 hb with h | h
    · rw [h]; exact h1.sz
    · exact h3 b h
  · rw [Array.size_append, size_zeroCells, size_zeroCells, hzc, Array.size_replicate]; omega
  · exact heap_alloc_old w.drew _ (h4.lt b hb)
end
theorem V.cap {P : Program} {a : Act} {x : Operand} {t ty : TypeId} {ad : Option Addr} {n c : Nat} {e : TypeId} (ht : P.underlying t = some (.slice e)) (hx : a.eval x = .slice ad n c) : Val P (.call { callee := .builtin .cap, args := #[x], argTypes := #[t] }) ty a (.int .i64 c) := fun d pos af g w => by
  have e : P.elem t = e := by simp [Program.elem, ht]
  have e2 := run_cap_slice (P := P) w t ty ad n c (by rw [e]; exact ht)
  simp only [execOp, resolve, invoke, builtin, Sem.run_bind, Sem.run_pure, Result.andThen_ok, List.map_toArray, List.map_cons, List.map_nil, hx, e2]
  rfl
theorem grow_any (w0 : World) (n : Nat) (hn : n ≤ 1000000) : Calls Tryd.prog 86 #[.slice none 0 0, .int .i64 n] w0 fun e w => ∃ (ad : Option Addr) (c : Nat), e = .returned (.slice ad 0 c) ∧ St w0 w [own 3 1 ad 0 c []] := by
  have hS := St.start w0
  go_enter Tryd.func86, Tryd.ntmps86
  by_cases h0 : n = 0
  · subst h0
    repeat' (first
      | ((with_reducible apply gt9 _ (.move _)); (first | go_big_want | go_step); go_step) | ((with_reducible apply gt9 _ (.assign _)); (first | go_big_want | go_step); go_step) | ((with_reducible apply gt9 (some 6) (.binOp .lss _ _ _ _)); (refine wvv9 (V.lss rfl rfl) ?_; go_step)) | ((fail_if_success with_reducible apply ga9); go_step))
    repeat' (first
      | ((with_reducible apply gt9 (some 13) (.binOp .sub _ _ _ _)); (refine wplV (.int _ (0)) (V.as (V.subI rfl rfl (by omega)) (by omega)) rfl ?_; go_step)) | ((with_reducible apply gt9 (some 14) (.binOp .sub _ _ _ _)); (refine wplV (.int _ (0)) (V.as (V.subI rfl rfl (by omega)) (by omega)) rfl ?_; go_step)) | ((with_reducible apply gt9 _ (.move _)); (first | go_big_want | go_step); go_step) | ((with_reducible apply gt9 _ (.assign _)); (first | go_big_want | go_step); go_step) | ((with_reducible apply gt9 (some 10) (.call ⟨.builtin .cap, _, _⟩)); (refine wvv9 (V.cap Tryd.underlying24 rfl) ?_; go_step)) | ((with_reducible apply gt9 (some 12) (.call ⟨.builtin .len, _, _⟩)); (refine wvv9 (V.len Tryd.underlying24 rfl) ?_; go_step)) | ((with_reducible apply gt9 (some 16) (.binOp .gtr _ _ _ _)); (refine wvv9 (V.gtr rfl rfl) ?_; go_step)) | ((fail_if_success with_reducible apply ga9); go_step))
    repeat' (first
      | ((fail_if_success with_reducible apply ga9); go_step))
    go_ret
    exact ⟨none, 0, rfl, hS.nil 3 1⟩
  · skip
    repeat' (first
      | ((with_reducible apply gt9 _ (.move _)); (first | go_big_want | go_step); go_step) | ((with_reducible apply gt9 _ (.assign _)); (first | go_big_want | go_step); go_step) | ((with_reducible apply gt9 (some 6) (.binOp .lss _ _ _ _)); (refine wvv9 (V.lss rfl rfl) ?_; go_step)) | ((fail_if_success with_reducible apply ga9); go_step))
    repeat' (first
      | ((with_reducible apply gt9 (some 13) (.binOp .sub _ _ _ _)); (refine wplV (.int _ (0)) (V.as (V.subI rfl rfl (by omega)) (by omega)) rfl ?_; go_step)) | ((with_reducible apply gt9 (some 14) (.binOp .sub _ _ _ _)); (refine wplV (.int _ (((n : Nat) : Int))) (V.as (V.subI rfl rfl (by omega)) (by omega)) rfl ?_; go_step)) | ((with_reducible apply gt9 _ (.move _)); (first | go_big_want | go_step); go_step) | ((with_reducible apply gt9 _ (.assign _)); (first | go_big_want | go_step); go_step) | ((with_reducible apply gt9 (some 10) (.call ⟨.builtin .cap, _, _⟩)); (refine wvv9 (V.cap Tryd.underlying24 rfl) ?_; go_step)) | ((with_reducible apply gt9 (some 12) (.call ⟨.builtin .len, _, _⟩)); (refine wvv9 (V.len Tryd.underlying24 rfl) ?_; go_step)) | ((with_reducible apply gt9 (some 16) (.binOp .gtr _ _ _ _)); (refine wvv9 (V.gtr rfl rfl) ?_; go_step)) | ((fail_if_success with_reducible apply ga9); go_step))
    repeat' (first
      | ((with_reducible apply gt9 (some 20) _); refine wplV (.slice none 0 0) (V.slice Tryd.underlying24 isz3 rfl .none (.some rfl (show IsN ((0 : Nat) : Int) 0 from rfl)) (Nat.le_refl _) (Nat.le_refl _)) (by kernel_rfl) ?_; go_step) | ((with_reducible apply gt9 (some 22) _); refine wpl (by kernel_rfl) ?_; refine wp_appendZ (o := ⟨some 22, _, _, _, _, _⟩) hS _ _ 24 3 rfl 3 8 .i64 elz24 .i64 Tryd.underlying3 rfl .i64 n rfl (by omega) (by unfold maxLen; omega) (by omega) ?_; clear hS; intro g22 c22 w hc1 hc2 hS; refine put_move ?_; go_step) | ((with_reducible apply gt9 _ (.move _)); (first | go_big_want | go_step); go_step) | ((with_reducible apply gt9 _ (.assign _)); (first | go_big_want | go_step); go_step) | ((with_reducible apply gt9 (some 19) (.call ⟨.builtin .cap, _, _⟩)); (refine wvv9 (V.cap Tryd.underlying24 rfl) ?_; go_step)) | ((with_reducible apply gt9 (some 24) (.call ⟨.builtin .len, _, _⟩)); (refine wvv9 (V.len Tryd.underlying24 rfl) ?_; go_step)) | ((with_reducible apply gt9 (some 25) (.slice 24 _ _ _ _)); (refine wvv9 (V.slice Tryd.underlying24 isz3 rfl (by (first | exact Lo.none | exact Lo.some rfl isn9)) (by (first | exact Up.none | exact Up.some rfl isn9)) (by omega) (by omega)) ?_; go_step)) | ((fail_if_success with_reducible apply ga9); go_step))
    go_ret
    refine ⟨some ⟨g22, 0, none⟩, c22, ?_, hS⟩
    show Ending.returned (.slice (cutAt (some ⟨g22, 0, none⟩) c22 0 1) (0 - 0) (c22 - 0)) = _
    rw [cutAt_zero]
    rfl
theorem Pull.mem2 : ∀ (ss rs : List Res) (r : Res), ∃ ss', Pull r (ss ++ r :: rs) ss'
  | [], rs, r => ⟨rs, .head⟩
  | x :: ss, rs, r => by obtain ⟨s, hs⟩ := Pull.mem2 ss rs r; exact ⟨x :: s, .tail hs⟩
theorem pkE_all (P : List PkV) : ∀ u ∈ P.flatMap pkE, u.oneCell' = true := fun u hu => by
  obtain ⟨p, _, h⟩ := List.mem_flatMap.1 hu
  simp only [pkE, List.mem_cons, List.mem_nil_iff, or_false] at h
  rcases h with rfl | rfl <;> rfl
theorem V.eqlNilS {P : Program} {a : Act} {x y : Operand} {t ty u e : TypeId} {ad : Option Addr} {n c : Nat} (ht : P.underlying t = some (.slice e)) (hg : P.eqGuardType P.depth t = false) (hx : a.eval x = .slice ad n c) (hy : a.eval y = .slice none 0 0) : Val P (.binOp .eql t x y u) ty a (.bool ad.isNone) := fun d pos af g w => by
  have e1 : (eqGuard .eql t x y (.slice ad n c) (.slice none 0 0)).run P w = .ok () w := by
    unfold eqGuard
    simp
  have e2 : (binOp .eql t (.slice ad n c) (.slice none 0 0)).run P w = .ok (.bool ad.isNone) w := by
    have : binOp .eql t (.slice ad n c) (.slice none 0 0) = (do pure (.bool (← Op.equal t (.slice ad n c) (.slice none 0 0)))) := rfl
    rw [this]
    simp only [Sem.run_bind, run_equal_slice_nil w t e ad n c ht, Result.andThen_ok, Sem.run_pure]
  simp only [execOp, hx, hy, Sem.run_bind, e1, Result.andThen_ok, e2, Sem.run_pure]
section
variable {P : Program} {W w : World} {rs rs' : List Res} {Q : Exit → Act → World → Prop} {K : Act → World → Prop} {o : Oper} {a : Act}
/-- An empty slice that is not nil. -/
theorem wp_buildSlice0 (hS : St W w rs) (t : TypeId) (ho : o.op = .buildSlice t 0 #[]) (e : TypeId) (s b : Nat) (el : ElemT P t e s b)
    (h : ∀ g w', St W w' (own e s (some ⟨g, 0, none⟩) 0 0 [] :: rs) → K (a.put o.dst (.slice (some ⟨g, 0, none⟩) 0 0)) w') : o.wp P a w K Q := by
  obtain ⟨ht, ⟨i, z, hi, hz, hsz, hb, hzs⟩, hp⟩ := el
  have hr : (Instr.buildSlice t 0 #[]).run P w = .ok (.slice (some ⟨w.heap.size, 0, none⟩) 0 0) (w.alloc (.cells #[] e)) := by
    simp [Instr.buildSlice, run_underlying ht, sizeOf, typeInfo, hi, Instr.fill, newRow]
    rw [Array.eq_empty_of_size_eq_zero (xs := Array.map (fun x => default) (Array.range 0)) (by simp)]
  have hst := hS.allocOwn e s 0 [] (by simp) (Nat.zero_le _)
  unfold Oper.wp execOp
  simp only [ho, Sem.run_bind, Array.map_empty, hr, Result.andThen_ok, Sem.run_pure]
  exact h _ _ hst
end
theorem clone_any (W w0 : World) (rs rs' : List Res) (g n c : Nat) (P : List PkV) (hS : St W w0 rs) (hp : Pull (pks g n c P) rs rs') (hn : n ≤ 100000) (hn0 : 0 < n) :
    Calls Tryd.prog 68 #[.slice (some ⟨g, 0, none⟩) n c] w0 fun e w => ∃ (g' c' : Nat), e = .returned (.slice (some ⟨g', 0, none⟩) n c') ∧ St W w (pks g' n c' P :: pks g n c P :: rs') := by
  replace hS := hS.pull hp
  go_enter Tryd.func68, Tryd.ntmps68
  have he := pkE_len
  have hsl : ∀ w rs2, St W w (rs2 ++ pks g n c P :: rs') → Sl w 2 (.slice (some ⟨g, 0, none⟩) n c) n (P.flatMap pkE) := fun w rs2 h => by
    obtain ⟨ss', hp⟩ := Pull.mem2 rs2 rs' (pks g n c P)
    exact h.sl hp
  repeat' (first
    | ((with_reducible apply gt9 (some 4) _); refine wplV (.bool false) (V.eqlNilS (ad := some ⟨g, 0, none⟩) (n := n) (c := c) Tryd.underlying134 (by kernel_rfl) rfl rfl) (by kernel_rfl) ?_; go_step) | ((with_reducible apply gt9 _ (.move _)); (first | go_big_want | go_step); go_step) | ((with_reducible apply gt9 _ (.assign _)); (first | go_big_want | go_step); go_step) | ((fail_if_success with_reducible apply ga9); go_step))
  repeat' (first
    | ((with_reducible apply gt9 (some 5) _); refine wpl (by kernel_rfl) ?_; refine wp_buildSlice0 (o := ⟨some 5, _, _, _, _, _⟩) hS 134 rfl 133 2 32 el134 ?_; clear hS; intro g5 w hS; refine put_move ?_; go_step) | ((with_reducible apply gt9 (some 7) _); refine wpl (by kernel_rfl) ?_; refine wp_append (o := ⟨some 7, _, _, _, _, _⟩) hS _ _ 134 rfl 133 2 32 el134 _ _ _ _ rfl .head _ rfl n _ (hsl _ [_] hS) (pkE_all P) (by unfold maxLen; omega) (by omega) ?_; clear hS; intro ad7 c7 w hS; refine put_move ?_; go_step) | ((with_reducible apply gt9 _ (.move _)); (first | go_big_want | go_step); go_step) | ((with_reducible apply gt9 _ (.assign _)); (first | go_big_want | go_step); go_step) | ((fail_if_success with_reducible apply ga9); go_step))
  go_ret
  rw [Nat.zero_add, List.nil_append] at hS
  obtain ⟨g', rfl⟩ := own_some hS .head hn0
  refine ⟨g', c7, ?_, hS⟩
  show Ending.returned (.slice (some ⟨g', 0, none⟩) (0 + n) c7) = _
  rw [Nat.zero_add]
/-- A row of ints: where it lies, and what it is. -/
structure Sr where
  ad : Option Addr
  c : Nat
  xs : List Int
def Sr.val (p : Sr) : Value := .slice p.ad p.xs.length p.c
def Sr.res (p : Sr) : Res := own 3 1 p.ad p.xs.length p.c (p.xs.map (Value.int .i64))
def flat (R : List Sr) (k : Nat) : List Int := (R.take k).flatMap (·.xs)
theorem flat_succ (R : List Sr) (k : Nat) (r : Sr) (h : R[k]? = some r) : flat R (k + 1) = flat R k ++ r.xs := by
  obtain ⟨hk, e⟩ := List.getElem?_eq_some_iff.1 h
  unfold flat
  rw [List.take_succ_eq_append_getElem hk, List.flatMap_append, e]
  simp
theorem flat_le (R : List Sr) (k : Nat) : (flat R k).length ≤ (R.flatMap (·.xs)).length := by
  have : R.flatMap (·.xs) = (R.take k).flatMap (·.xs) ++ (R.drop k).flatMap (·.xs) := by rw [← List.flatMap_append, List.take_append_drop]
  rw [this, List.length_append]
  unfold flat
  omega
set_option maxHeartbeats 4000000 in
theorem concat_any (w0 : World) (g m mc : Nat) (R : List Sr) (hv : Sl w0 1 (.slice (some ⟨g, 0, none⟩) m mc) m (R.map Sr.val)) (hr : ∀ r ∈ R, Sl w0 1 r.val r.xs.length (r.xs.map (Value.int .i64))) (hm : m ≤ 1000) (hb : (R.flatMap (·.xs)).length ≤ 1000000) :
    Calls Tryd.prog 69 #[.slice (some ⟨g, 0, none⟩) m mc] w0 fun e w => ∃ (ad : Option Addr) (c : Nat), e = .returned (.slice ad (R.flatMap (·.xs)).length c) ∧ St w0 w [own 3 1 ad (R.flatMap (·.xs)).length c ((R.flatMap (·.xs)).map (Value.int .i64))] := by
  have hS := St.start w0
  have hRl : R.length = m := by have := hv.1; simpa using this
  have HC : Hid (∀ k r, k < m → R[k]? = some r → w0.cell? ⟨g, k, none⟩ = some (.slice r.ad r.xs.length r.c)) := fun k r hk h => by
    obtain ⟨_, a1, c1, e1, _, _, hor⟩ := hv
    cases e1
    rcases hor with h0 | ⟨b0, o0, e2, hc⟩
    · omega
    · cases e2
      have := hc k (by omega)
      rw [Nat.zero_add, List.getElem?_map, h] at this
      exact this
  have HR := hid hr
  have HF : Hid (flat R m = R.flatMap (·.xs)) := by unfold Hid; unfold flat; rw [← hRl, List.take_length]
  have HL : Hid (∀ k, (flat R k).length ≤ 1000000) := fun k => Nat.le_trans (flat_le R k) hb
  rw [← HF.out]
  clear hv hr hb
  go_enter Tryd.func69, Tryd.ntmps69
  repeat' (first
    | ((with_reducible apply gt9 _ (.move _)); (first | go_big_want | go_step); go_step) | ((with_reducible apply gt9 _ (.assign _)); (first | go_big_want | go_step); go_step) | ((with_reducible apply gt9 (some 10) (.call ⟨.builtin .len, _, _⟩)); (refine wvv9 (V.len Tryd.underlying160 rfl) ?_; go_step)) | ((fail_if_success with_reducible apply ga9); go_step))
  go_loopg [3, 11] m (fun gk sv iv w => ∃ (k L : Nat), gk + k = m ∧ L = (flat R k).length ∧ iv = .int .i64 k ∧ sv = .int .i64 L ∧ St w0 w [])
  case atStart => exact ⟨0, 0, by omega, rfl, rfl, rfl, hS⟩
  case round =>
    clear hS
    obtain ⟨k, L, hk, hL, rfl, rfl, hS⟩ := hrel
    have hL0 := HL.out k
    rw [← hL] at hL0
    by_cases hlt : k < m
    · obtain ⟨r, hr⟩ : ∃ r, R[k]? = some r := ⟨_, List.getElem?_eq_getElem (by omega)⟩
      have hc := HC.out k r hlt hr
      have hf := congrArg List.length (flat_succ R k r hr)
      rw [List.length_append, ← hL] at hf
      have hL1 := HL.out (k + 1)
      obtain ⟨N, hN⟩ : ∃ N, r.xs.length = N := ⟨_, rfl⟩
      rw [hN] at hf hc
      have HFk := hid hf
      rw [hf] at hL1
      clear hf hN hr
      repeat' (first
        | ((with_reducible apply gt9 _ (.move _)); (first | go_big_want | go_step); go_step) | ((with_reducible apply gt9 _ (.assign _)); (first | go_big_want | go_step); go_step) | ((with_reducible apply gt9 (some 12) (.binOp .lss _ _ _ _)); (refine wvv9 (V.lss rfl rfl) ?_; go_step)) | ((with_reducible apply gt9 (some 13) (.indexAddr 160 _ _)); (refine wvv9 (V.indexSl Tryd.underlying160 isz24 rfl rfl isn9 (by omega) (Nat.mul_one _) nq9) ?_; go_step)) | ((with_reducible apply gt9 _ (.load 24 _)); (refine wpl (by kernel_rfl) ?_; apply wp_loadW hS 24 _ rfl _ rfl (one_of rfl) _; (case hc => with_reducible assumption); refine put_move ?_; go_step)) | ((fail_if_success with_reducible apply ga9); go_step))
      repeat' (first
        | ((with_reducible apply gt9 (some 18) (.binOp .add _ _ _ _)); (refine wplV (.int _ (((L + N : Nat) : Int))) (V.as (V.addI rfl rfl (by omega)) (by omega)) rfl ?_; go_step)) | ((with_reducible apply gt9 _ (.move _)); (first | go_big_want | go_step); go_step) | ((with_reducible apply gt9 _ (.assign _)); (first | go_big_want | go_step); go_step) | ((with_reducible apply gt9 (some 17) (.call ⟨.builtin .len, _, _⟩)); (refine wvv9 (V.len Tryd.underlying24 rfl) ?_; go_step)) | ((with_reducible apply gt9 (some 20) (.binOp .lss _ _ _ _)); (refine wvv9 (V.lss rfl rfl) ?_; go_step)) | ((fail_if_success with_reducible apply ga9); go_step))
      repeat' (first
        | ((with_reducible apply gt9 (some 22) (.binOp .add _ _ _ _)); (refine wplV (.int _ (((k + 1 : Nat) : Int))) (V.as (V.addI rfl rfl (by omega)) (by omega)) rfl ?_; go_step)) | ((with_reducible apply gt9 _ (.move _)); (first | go_big_want | go_step); go_step) | ((fail_if_success with_reducible apply ga9); go_step))
      go_roundg (gk - 1)
      case measure => omega
      case rel => exact ⟨k + 1, L + N, by omega, HFk.out.symm, by go_num, rfl, hS⟩
    · obtain rfl : k = m := by omega
      repeat' (first
        | ((with_reducible apply gt9 _ (.move _)); (first | go_big_want | go_step); go_step) | ((with_reducible apply gt9 (some 12) (.binOp .lss _ _ _ _)); (refine wvv9 (V.lss rfl rfl) ?_; go_step)) | ((fail_if_success with_reducible apply ga9); go_step))
      repeat' (first
        | ((with_reducible apply gt9 _ (.call ⟨.value (.func 86), _, _⟩)); refine wpl_call (f := 86) Tryd.call86 (by kernel_rfl) ?_; refine ⟨_, (grow_any _ L (by omega)), ?_⟩; rintro e w ⟨ad, cc, rfl, hS2⟩; replace hS := hS.call1 hS2; clear hS2; refine ⟨_, rfl, ?_⟩; refine put_move ?_; go_step) | ((with_reducible apply gt9 _ (.move _)); (first | go_big_want | go_step); go_step) | ((with_reducible apply gt9 _ (.assign _)); (first | go_big_want | go_step); go_step) | ((with_reducible apply gt9 (some 26) (.call ⟨.builtin .len, _, _⟩)); (refine wvv9 (V.len Tryd.underlying160 rfl) ?_; go_step)) | ((fail_if_success with_reducible apply ga9); go_step))
      go_loopg [6, 27] k (fun gk sv iv w => ∃ (j M : Nat) (aa : Option Addr) (ca : Nat), gk + j = k ∧ M = (flat R j).length ∧ iv = .int .i64 j ∧ sv = .slice aa M ca ∧ St w0 w [own 3 1 aa M ca ((flat R j).map (Value.int .i64))])
      case atStart => exact ⟨0, 0, ad, cc, by omega, rfl, rfl, rfl, hS⟩
      case round =>
        clear hS
        obtain ⟨j, M, aa, ca, hj, hM, rfl, rfl, hS⟩ := hrel
        have hM0 := HL.out j
        rw [← hM] at hM0
        by_cases hlt2 : j < k
        · obtain ⟨r, hr⟩ : ∃ r, R[j]? = some r := ⟨_, List.getElem?_eq_getElem (by omega)⟩
          have hc := HC.out j r hlt2 hr
          have hsl : Sl w0 1 (.slice r.ad r.xs.length r.c) r.xs.length (r.xs.map (Value.int .i64)) := HR.out r (List.mem_of_getElem? hr)
          have hfe := flat_succ R j r hr
          have hf := congrArg List.length hfe
          rw [List.length_append, ← hM] at hf
          have hM1 := HL.out (j + 1)
          obtain ⟨N, hN⟩ : ∃ N, r.xs.length = N := ⟨_, rfl⟩
          rw [hN] at hf hc hsl
          have HFk := hid hf
          have HFE := hid hfe
          rw [hf] at hM1
          clear hf hN hr hfe
          repeat' (first
            | ((with_reducible apply gt9 (some 34) (.binOp .add _ _ _ _)); (refine wplV (.int _ (((j + 1 : Nat) : Int))) (V.as (V.addI rfl rfl (by omega)) (by omega)) rfl ?_; go_step)) | ((with_reducible apply gt9 _ (.move _)); (first | go_big_want | go_step); go_step) | ((with_reducible apply gt9 _ (.assign _)); (first | go_big_want | go_step); go_step) | ((with_reducible apply gt9 (some 28) (.binOp .lss _ _ _ _)); (refine wvv9 (V.lss rfl rfl) ?_; go_step)) | ((with_reducible apply gt9 (some 29) (.indexAddr 160 _ _)); (refine wvv9 (V.indexSl Tryd.underlying160 isz24 rfl rfl isn9 (by omega) (Nat.mul_one _) nq9) ?_; go_step)) | ((with_reducible apply gt9 _ (.load 24 _)); (refine wpl (by kernel_rfl) ?_; apply wp_loadW hS 24 _ rfl _ rfl (one_of rfl) _; (case hc => with_reducible assumption); refine put_move ?_; go_step)) | ((with_reducible apply gt9 (some 33) (.call ⟨.builtin .append, _, _⟩)); (refine wpl (by kernel_rfl) ?_; apply wp_append (o := ⟨some 33, _, _, _, _, _⟩) hS _ _ 24 rfl 3 1 8 el24 _ _ _ _ rfl; (case hp => exact pl9); (case hx => exact rfl); (case hm => (first | exact hS.slBlk pl9 (by rfl) (by decide) | exact hS.sl pl9 | with_reducible assumption | exact Sl.ext (by with_reducible assumption) hS.1 | exact Sl.nil _ _ | exact Sl.ext (by assumption) hS.1 | assumption)); (case h1 => (first | exact oneAll rfl | exact oneMap _ _ | (intro u hu; cases hu))); (case h63 => unfold maxLen; omega); (case hb => omega); clear hS; intro ad33 c33 w hS; (first | simp only [mapk1] at hS | simp only [mapk2] at hS | simp only [mapk3] at hS | simp only [mapk4] at hS | simp only [mapkl] at hS | skip); refine put_move ?_; go_step)) | ((fail_if_success with_reducible apply ga9); go_step))
          go_roundg (gk - 1)
          case measure => omega
          case rel => exact ⟨j + 1, M + N, _, _, by omega, HFk.out.symm, by go_num, rfl, by rw [HFE.out]; exact hS.sub sb9⟩
        · obtain rfl : j = k := by omega
          repeat' (first
            | ((with_reducible apply gt9 _ (.move _)); (first | go_big_want | go_step); go_step) | ((with_reducible apply gt9 _ (.assign _)); (first | go_big_want | go_step); go_step) | ((with_reducible apply gt9 (some 28) (.binOp .lss _ _ _ _)); (refine wvv9 (V.lss rfl rfl) ?_; go_step)) | ((fail_if_success with_reducible apply ga9); go_step))
          repeat' (first
            | ((fail_if_success with_reducible apply ga9); go_step))
          go_ret
          rw [← hM]
          exact ⟨aa, ca, rfl, hS⟩
end Go.Proofs.YtehbjhocgnfpmaaDoor

/- Packages that are merged (best.Make): what their words' lengths are, in plain lists: KRAFT; no words of at most 16 bits cost less; what weighs more has no longer word. -/
namespace Go.Proofs.YtehbjhocgnfpmaaDoor
set_option linter.unusedVariables false
/-- a pack: its weight, its symbols -/
abbrev Pk := Int × List Int
def wsum (l : List Pk) : Int := (l.map (·.1)).sum
def syl (l : List Pk) : List Int := l.flatMap (·.2)
theorem wsum_nil : wsum [] = 0 := rfl
theorem wsum_cons (x : Pk) (l : List Pk) : wsum (x :: l) = x.1 + wsum l := by simp [wsum]
theorem wsum_append (a b : List Pk) : wsum (a ++ b) = wsum a + wsum b := by simp [wsum]
theorem wsum_perm {a b : List Pk} (h : a.Perm b) : wsum a = wsum b := by
  induction h with
  | nil => rfl
  | cons x _ ih => simp [wsum_cons, ih]
  | swap x y l => simp only [wsum_cons]; omega
  | trans _ _ h1 h2 => rw [h1, h2]
theorem syl_cons (x : Pk) (l : List Pk) : syl (x :: l) = x.2 ++ syl l := by simp [syl]
theorem syl_append (a b : List Pk) : syl (a ++ b) = syl a ++ syl b := by simp [syl]
theorem syl_perm {a b : List Pk} (h : a.Perm b) : (syl a).Perm (syl b) := h.flatMap_right _
def Srt (l : List Pk) : Prop := l.Pairwise (fun a b => a.1 ≤ b.1)
def pjoin (p : Pk × Pk) : Pk := (p.1.1 + p.2.1, p.1.2 ++ p.2.2)
def prs : List Pk → List (Pk × Pk)
  | a :: b :: l => (a, b) :: prs l
  | _ => []
def unp (l : List (Pk × Pk)) : List Pk := l.flatMap fun p => [p.1, p.2]
def pkgs (l : List Pk) : List Pk := (prs l).map pjoin
theorem prs_unp : ∀ (l : List Pk), ∃ z, unp (prs l) ++ z = l ∧ z.length ≤ 1
  | [] => ⟨[], rfl, by simp⟩
  | [a] => ⟨[a], rfl, by simp⟩
  | a :: b :: l => by
    obtain ⟨z, h, hz⟩ := prs_unp l
    exact ⟨z, by simp [prs, unp] at h ⊢; exact h, hz⟩
theorem unp_len (l : List (Pk × Pk)) : (unp l).length = 2 * l.length := by
  induction l with
  | nil => rfl
  | cons x l ih => simp [unp] at ih ⊢; omega
theorem prs_len (l : List Pk) : (prs l).length = l.length / 2 := by
  obtain ⟨z, h, hz⟩ := prs_unp l
  have := congrArg List.length h
  rw [List.length_append, unp_len] at this
  omega
theorem pairs_len (l : List Pk) : (pkgs l).length = l.length / 2 := by simp [pkgs, prs_len]
theorem wsum_join (l : List (Pk × Pk)) : wsum (l.map pjoin) = wsum (unp l) := by
  induction l with
  | nil => rfl
  | cons x l ih => simp only [List.map_cons, wsum_cons, ih, pjoin, unp, List.flatMap_cons, List.cons_append, List.nil_append]; simp only [unp] at *; omega
theorem syl_join (l : List (Pk × Pk)) : syl (l.map pjoin) = syl (unp l) := by
  induction l with
  | nil => rfl
  | cons x l ih => simp only [List.map_cons, syl_cons, ih, pjoin, unp, List.flatMap_cons, List.cons_append, List.nil_append, List.append_assoc]
theorem perm_lift {α β : Type} (f : α → β) {L L0 : List β} (h : L.Perm L0) : ∀ M : List α, M.map f = L0 → ∃ M' : List α, M'.Perm M ∧ M'.map f = L := by
  induction h with
  | nil => intro M e; exact ⟨[], (by cases M with | nil => exact List.Perm.refl _ | cons => cases e), rfl⟩
  | cons x _ ih =>
    intro M e
    cases M with
    | nil => cases e
    | cons m M =>
      simp only [List.map_cons, List.cons.injEq] at e
      obtain ⟨M', h1, h2⟩ := ih M e.2
      exact ⟨m :: M', h1.cons m, by simp [e.1, h2]⟩
  | swap x y l =>
    intro M e
    match M, e with
    | m1 :: m2 :: M, e =>
      simp only [List.map_cons, List.cons.injEq] at e
      exact ⟨m2 :: m1 :: M, List.Perm.swap _ _ _, by simp [e.1, e.2.1, e.2.2]⟩
  | trans _ _ h1 h2 =>
    intro M e
    obtain ⟨M1, p1, e1⟩ := h2 M e
    obtain ⟨M2, p2, e2⟩ := h1 M1 e1
    exact ⟨M2, p2.trans p1, e2⟩
/-- X lies in R -/
def LiesIn (X R : List Pk) : Prop := ∃ Z, (X ++ Z).Perm R
theorem LiesIn.take (R : List Pk) (m : Nat) : LiesIn (R.take m) R := ⟨R.drop m, by rw [List.take_append_drop]⟩
theorem LiesIn.perm {X Y R : List Pk} (h : LiesIn X R) (p : X.Perm Y) : LiesIn Y R := by
  obtain ⟨Z, hz⟩ := h; exact ⟨Z, (p.symm.append_right Z).trans hz⟩
theorem LiesIn.right {X R Q : List Pk} (h : LiesIn X R) (p : R.Perm Q) : LiesIn X Q := by
  obtain ⟨Z, hz⟩ := h; exact ⟨Z, hz.trans p⟩
theorem LiesIn.app {X Y R Q : List Pk} (h : LiesIn X R) (k : LiesIn Y Q) : LiesIn (X ++ Y) (R ++ Q) := by
  obtain ⟨Z, hz⟩ := h; obtain ⟨U, hu⟩ := k
  refine ⟨Z ++ U, List.Perm.trans ?_ (hz.append hu)⟩
  rw [List.append_assoc, List.append_assoc]
  refine List.Perm.append_left X ?_
  rw [← List.append_assoc, ← List.append_assoc]
  exact List.Perm.append_right U List.perm_append_comm
theorem LiesIn.mem {X R : List Pk} (h : LiesIn X R) {x : Pk} (hx : x ∈ X) : x ∈ R := by
  obtain ⟨Z, hz⟩ := h; exact hz.mem_iff.1 (List.mem_append_left _ hx)
theorem LiesIn.len {X R : List Pk} (h : LiesIn X R) : X.length ≤ R.length := by
  obtain ⟨Z, hz⟩ := h; have := hz.length_eq; rw [List.length_append] at this; omega
/-- what lies among the packages comes of twice as many -/
theorem LiesIn.unpair {B R : List Pk} (h : LiesIn B (pkgs R)) : ∃ Y, LiesIn Y R ∧ Y.length = 2 * B.length ∧ syl Y = syl B ∧ wsum Y = wsum B ∧ ∃ B', B'.map pjoin = B ∧ Y = unp B' := by
  obtain ⟨Z, hz⟩ := h
  obtain ⟨M, hp, hm⟩ := perm_lift pjoin hz (prs R) rfl
  obtain ⟨B', Z', e, hb, hz'⟩ := List.map_eq_append_iff.1 hm
  obtain ⟨z, hu, _⟩ := prs_unp R
  refine ⟨unp B', ⟨unp Z' ++ z, ?_⟩, by rw [unp_len, ← hb, List.length_map], by rw [← hb, syl_join], by rw [← hb, wsum_join], B', hb, rfl⟩
  have h1 : (unp M).Perm (unp (prs R)) := hp.flatMap_right _
  have h2 : unp M = unp B' ++ unp Z' := by rw [e]; simp [unp]
  rw [← List.append_assoc, ← h2]
  conv => rhs; rw [← hu]
  exact h1.append_right z
/-- the lightest m weigh no more than any as many or more -/
theorem take_least : ∀ (R : List Pk), Srt R → (∀ x ∈ R, 0 ≤ x.1) → ∀ (X : List Pk) (m : Nat), LiesIn X R → m ≤ X.length → wsum (R.take m) ≤ wsum X := by
  have nn : ∀ X : List Pk, (∀ x ∈ X, 0 ≤ x.1) → 0 ≤ wsum X := fun X h => by
    induction X with
    | nil => simp [wsum]
    | cons x X ih => rw [wsum_cons]; have := h x (by simp); have := ih fun y hy => h y (by simp [hy]); omega
  intro R
  induction R with
  | nil =>
    intro _ _ X m hX _
    have : X = [] := by have := hX.len; exact List.eq_nil_of_length_eq_zero (by simpa using this)
    subst this; simp [wsum]
  | cons r R ih =>
    intro hs h0 X m hX hm
    cases m with
    | zero => simp only [List.take_zero, wsum_nil]; exact nn X fun x hx => h0 x (hX.mem hx)
    | succ m =>
      obtain ⟨hr, hs'⟩ := List.pairwise_cons.1 hs
      rw [List.take_succ_cons, wsum_cons]
      obtain ⟨Z, hz⟩ := hX
      have hrm : r ∈ X ++ Z := hz.mem_iff.2 (by simp)
      rcases List.mem_append.1 hrm with hx | hx
      · have p := List.perm_cons_erase hx
        have hz2 : (X.erase r ++ Z).Perm R := by
          have : (r :: (X.erase r ++ Z)).Perm (r :: R) := (p.symm.append_right Z).trans hz
          exact this.cons_inv
        have hl := p.length_eq
        rw [List.length_cons] at hl
        have := ih hs' (fun x hx => h0 x (by simp [hx])) (X.erase r) m ⟨Z, hz2⟩ (by omega)
        rw [wsum_perm p, wsum_cons]; omega
      · cases X with
        | nil => simp at hm
        | cons x X =>
          have p := List.perm_cons_erase hx
          have hz2 : (X ++ (x :: Z.erase r)).Perm R := by
            have h1 : (r :: (X ++ (x :: Z.erase r))).Perm (r :: R) := by
              refine List.Perm.trans ?_ hz
              have a1 : (X ++ x :: Z.erase r).Perm (x :: (X ++ Z.erase r)) := List.perm_middle
              have a2 : (r :: (X ++ x :: Z.erase r)).Perm (r :: x :: (X ++ Z.erase r)) := a1.cons r
              refine a2.trans ((List.Perm.swap x r _).trans ?_)
              refine List.Perm.cons x ?_
              have a3 : (r :: (X ++ Z.erase r)).Perm (X ++ r :: Z.erase r) := List.perm_middle.symm
              exact a3.trans (List.Perm.append_left X p.symm)
            exact h1.cons_inv
          have hxr : r.1 ≤ x.1 := by
            have : x ∈ r :: R := hz.mem_iff.1 (by simp)
            rcases List.mem_cons.1 this with e | e
            · rw [e]; exact Int.le_refl _
            · exact hr x e
          have := ih hs' (fun x hx => h0 x (by simp [hx])) X m ⟨_, hz2⟩ (by simp at hm; omega)
          rw [wsum_cons]; omega
/-- row k of packages over the singles S: sorted, of S and the pkgs of the row ahead -/
inductive RowK (S : List Pk) : Nat → List Pk → Prop
  | one (R : List Pk) (p : R.Perm S) (s : Srt R) : RowK S 1 R
  | more {k : Nat} {R Q : List Pk} (h : RowK S k R) (p : Q.Perm (pkgs R ++ S)) (s : Srt Q) : RowK S (k + 1) Q
theorem RowK.srt {S R : List Pk} {k : Nat} (h : RowK S k R) : Srt R := by cases h <;> assumption
theorem RowK.nonneg {S R : List Pk} {k : Nat} (h0 : ∀ x ∈ S, 0 ≤ x.1) (h : RowK S k R) : ∀ x ∈ R, 0 ≤ x.1 := by
  induction h with
  | one R p _ => exact fun x hx => h0 x (p.mem_iff.1 hx)
  | @more k R Q h p _ ih =>
    intro x hx
    rcases List.mem_append.1 (p.mem_iff.1 hx) with hx | hx
    · obtain ⟨q, hq, rfl⟩ := List.mem_map.1 hx
      obtain ⟨z, hu, _⟩ := prs_unp R
      have hm : ∀ y ∈ unp (prs R), y ∈ R := fun y hy => by rw [← hu]; exact List.mem_append_left _ hy
      have h1 := ih q.1 (hm _ (by simp only [unp, List.mem_flatMap]; exact ⟨q, hq, by simp⟩))
      have h2 := ih q.2 (hm _ (by simp only [unp, List.mem_flatMap]; exact ⟨q, hq, by simp⟩))
      simp only [pjoin]; omega
    · exact h0 x hx
theorem RowK.len {S R : List Pk} {k : Nat} (h : RowK S k R) : R.length ≤ 2 * S.length := by
  induction h with
  | one R p _ => have := p.length_eq; omega
  | more h p _ ih => have := p.length_eq; rw [List.length_append, pairs_len] at this; omega
/-- long enough -/
theorem RowK.long {S R : List Pk} {k : Nat} (h : RowK S k R) (_h1 : 1 ≤ S.length) : 2 * S.length ≤ R.length + 1 + S.length / 2 ^ (k - 1) := by
  induction h with
  | one R p _ => have := p.length_eq; simp; omega
  | @more k R Q h p _ ih =>
    have := p.length_eq; rw [List.length_append, pairs_len] at this
    have hk : 1 ≤ k := by cases h <;> omega
    have e : S.length / 2 ^ (k + 1 - 1) = S.length / 2 ^ (k - 1) / 2 := by
      rw [Nat.div_div_eq_div_mul, ← Nat.pow_succ, show (k - 1).succ = k + 1 - 1 by omega]
    rw [e]; omega
/-- sums of naturals over a list -/
def nsum {α : Type} (f : α → Nat) (l : List α) : Nat := (l.map f).sum
theorem nsum_cons {α : Type} (f : α → Nat) (x : α) (l : List α) : nsum f (x :: l) = f x + nsum f l := by simp [nsum]
theorem nsum_add {α : Type} (f g : α → Nat) (l : List α) : nsum (fun x => f x + g x) l = nsum f l + nsum g l := by
  induction l with
  | nil => rfl
  | cons x l ih => simp only [nsum_cons, ih]; omega
theorem nsum_le {α : Type} (f g : α → Nat) (l : List α) (h : ∀ x ∈ l, f x ≤ g x) : nsum f l ≤ nsum g l := by
  induction l with
  | nil => exact Nat.le_refl _
  | cons x l ih => have := h x (by simp); have := ih fun y hy => h y (by simp [hy]); simp only [nsum_cons]; omega
theorem nsum_congr {α : Type} (f g : α → Nat) (l : List α) (h : ∀ x ∈ l, f x = g x) : nsum f l = nsum g l := by
  induction l with
  | nil => rfl
  | cons x l ih => have := h x (by simp); have := ih fun y hy => h y (by simp [hy]); simp only [nsum_cons]; omega
theorem nsum_mul {α : Type} (f : α → Nat) (c : Nat) (l : List α) : nsum (fun x => f x * c) l = nsum f l * c := by
  induction l with
  | nil => simp [nsum]
  | cons x l ih => simp only [nsum_cons, ih, Nat.add_mul]
theorem nsum_one {α : Type} (p : α → Bool) (l : List α) : nsum (fun x => if p x then 1 else 0) l = (l.filter p).length := by
  induction l with
  | nil => rfl
  | cons x l ih => rw [nsum_cons, ih, List.filter_cons]; by_cases h : p x = true <;> simp [h]; omega
theorem nsum_zero {α : Type} (f : α → Nat) (l : List α) (h : ∀ x ∈ l, f x = 0) : nsum f l = 0 := by
  induction l with
  | nil => rfl
  | cons x l ih => have := h x (by simp); have := ih fun y hy => h y (by simp [hy]); simp only [nsum_cons]; omega
/-- how many of each symbol -/
def lng (X : List Pk) (s : Int) : Nat := (syl X).count s
/-- singles: each of one symbol, all apart -/
structure Sing (S : List Pk) (ss : List Int) : Prop where
  syms : S.map (·.2) = ss.map fun s => [s]
  nd : ss.Nodup
theorem Sing.len {S : List Pk} {ss : List Int} (h : Sing S ss) : S.length = ss.length := by
  have := congrArg List.length h.syms; simpa using this
theorem Sing.one {S : List Pk} {ss : List Int} (h : Sing S ss) : ∀ x ∈ S, ∃ s ∈ ss, x.2 = [s] := fun x hx => by
  have : x.2 ∈ S.map (·.2) := List.mem_map.2 ⟨x, hx, rfl⟩
  rw [h.syms] at this
  obtain ⟨s, hs, e⟩ := List.mem_map.1 this
  exact ⟨s, hs, e.symm⟩
theorem Sing.syls {S : List Pk} {ss : List Int} (h : Sing S ss) : syl S = ss := by
  have : syl S = (S.map (·.2)).flatten := by simp [syl, List.flatMap]
  rw [this, h.syms]
  clear h this
  induction ss with
  | nil => rfl
  | cons a l ih => rw [List.map_cons, List.flatten_cons, ih]; rfl
theorem RowK.pos {S R : List Pk} {k : Nat} {ss : List Int} (hS : Sing S ss) (h : RowK S k R) : ∀ x ∈ R, 1 ≤ x.2.length := by
  induction h with
  | one R p _ => intro x hx; obtain ⟨s, _, e⟩ := hS.one x (p.mem_iff.1 hx); rw [e]; simp
  | @more k R Q h p _ ih =>
    intro x hx
    rcases List.mem_append.1 (p.mem_iff.1 hx) with hx | hx
    · obtain ⟨q, hq, rfl⟩ := List.mem_map.1 hx
      obtain ⟨z, hu, _⟩ := prs_unp R
      have h1 := ih q.1 (by rw [← hu]; exact List.mem_append_left _ (by simp only [unp, List.mem_flatMap]; exact ⟨q, hq, by simp⟩))
      simp only [pjoin, List.length_append]; omega
    · obtain ⟨s, _, e⟩ := hS.one x hx; rw [e]; simp
/-- what lies in a row is of packages and of singles -/
theorem LiesIn.parts {S R Q X : List Pk} {k : Nat} {ss : List Int} (hS : Sing S ss) (h : RowK S k R) (p : Q.Perm (pkgs R ++ S)) (hX : LiesIn X Q) :
    ∃ B A, LiesIn B (pkgs R) ∧ LiesIn A S ∧ X.Perm (B ++ A) := by
  obtain ⟨Z, hz⟩ := hX
  have hz := hz.trans p
  have hpos := h.pos hS
  have h1 : ∀ x ∈ pkgs R, decide (2 ≤ x.2.length) = true := fun x hx => by
    obtain ⟨q, hq, rfl⟩ := List.mem_map.1 hx
    obtain ⟨z, hu, _⟩ := prs_unp R
    have e1 := hpos q.1 (by rw [← hu]; exact List.mem_append_left _ (by simp only [unp, List.mem_flatMap]; exact ⟨q, hq, by simp⟩))
    have e2 := hpos q.2 (by rw [← hu]; exact List.mem_append_left _ (by simp only [unp, List.mem_flatMap]; exact ⟨q, hq, by simp⟩))
    simp only [pjoin, List.length_append, decide_eq_true_eq]; omega
  have h2 : ∀ x ∈ S, decide (2 ≤ x.2.length) = false := fun x hx => by obtain ⟨s, _, e⟩ := hS.one x hx; rw [e]; simp
  have f1 := hz.filter (fun x => decide (2 ≤ x.2.length))
  have f2 := hz.filter (fun x => !decide (2 ≤ x.2.length))
  rw [List.filter_append, List.filter_append, List.filter_eq_self.2 h1, (List.filter_eq_nil_iff (l := S)).2 (fun x hx => by rw [h2 x hx]; simp), List.append_nil] at f1
  rw [List.filter_append, List.filter_append, (List.filter_eq_nil_iff (l := pkgs R)).2 (fun x hx => by rw [h1 x hx]; simp), (List.filter_eq_self (l := S)).2 (fun x hx => by rw [h2 x hx]; rfl), List.nil_append] at f2
  exact ⟨_, _, ⟨_, f1⟩, ⟨_, f2⟩, (List.filter_append_perm _ X).symm⟩
theorem lng_app (X Y : List Pk) (s : Int) : lng (X ++ Y) s = lng X s + lng Y s := by simp [lng, syl_append]
theorem lng_perm {X Y : List Pk} (h : X.Perm Y) (s : Int) : lng X s = lng Y s := (syl_perm h).count_eq s
theorem LiesIn.single {A S : List Pk} {ss : List Int} (hS : Sing S ss) (h : LiesIn A S) : (syl A).Nodup ∧ (syl A).length = A.length ∧ ∀ s ∈ syl A, s ∈ ss := by
  obtain ⟨Z, hz⟩ := h
  have hp : (syl A ++ syl Z).Perm ss := by rw [← syl_append, ← hS.syls]; exact syl_perm hz
  refine ⟨(List.nodup_append.1 (hp.nodup_iff.2 hS.nd)).1, ?_, fun s hs => hp.mem_iff.1 (List.mem_append_left _ hs)⟩
  have : ∀ x ∈ A, x.2.length = 1 := fun x hx => by
    obtain ⟨s, _, e⟩ := hS.one x (hz.mem_iff.1 (List.mem_append_left _ hx)); rw [e]; rfl
  clear hp hz
  induction A with
  | nil => rfl
  | cons x A ih => rw [syl_cons, List.length_append, this x (by simp), ih fun y hy => this y (by simp [hy]), List.length_cons]; omega
theorem two_pow_pred (k : Nat) (h : 1 ≤ k) : 2 ^ k = 2 * 2 ^ (k - 1) := by
  cases k with
  | zero => omega
  | succ k => rw [Nat.pow_succ, Nat.add_sub_cancel]; omega
/-- KRAFT: what lies in row k, by the width of its words -/
theorem RowK.kraft {S R : List Pk} {k : Nat} {ss : List Int} (hS : Sing S ss) (h : RowK S k R) : ∀ X, LiesIn X R →
    (∀ s, lng X s ≤ k) ∧ X.length * 2 ^ (k - 1) ≤ nsum (fun s => 2 ^ k - 2 ^ (k - lng X s)) ss ∧ (∀ s ∈ syl X, s ∈ ss) := by
  have sums : ∀ (L : List Int), L.Nodup → (∀ s ∈ L, s ∈ ss) → nsum (fun s => L.count s) ss = L.length := by
    intro L
    induction L with
    | nil => intro _ _; exact nsum_zero _ _ fun s _ => rfl
    | cons x L ih =>
      intro hn hm
      obtain ⟨h1, h2⟩ := List.nodup_cons.1 hn
      have := ih h2 fun s hs => hm s (by simp [hs])
      have e : nsum (fun s => (x :: L).count s) ss = nsum (fun s => L.count s) ss + nsum (fun s => if s = x then 1 else 0) ss := by
        rw [← nsum_add]
        refine nsum_congr _ _ _ fun s _ => ?_
        rw [List.count_cons]; by_cases h : s = x
        · subst h; simp
        · have : (x == s) = false := by simp; exact fun e => h e.symm
          simp [h, this]
      have e2 : nsum (fun s => if s = x then 1 else 0) ss = 1 := by
        have hx := hm x (by simp)
        have e3 : nsum (fun s => if s = x then 1 else 0) ss = ss.count x := by
          clear e this ih h1 h2 hn hm hx h hS
          induction ss with
          | nil => rfl
          | cons a l ih => rw [nsum_cons, ih, List.count_cons]; by_cases h : a = x <;> simp [h]; omega
        rw [e3]
        have a1 := List.nodup_iff_count.1 hS.nd x
        have a2 := List.count_pos_iff.2 hx
        omega
      rw [e, e2, this, List.length_cons]
  induction h with
  | one R p _ =>
    intro X hX
    obtain ⟨h1, h2, h3⟩ := (hX.right p).single hS
    have hle : ∀ s, lng X s ≤ 1 := fun s => List.nodup_iff_count.1 h1 s
    refine ⟨hle, ?_, h3⟩
    have := sums _ h1 h3
    have e : nsum (fun s => 2 ^ 1 - 2 ^ (1 - lng X s)) ss = nsum (fun s => (syl X).count s) ss := nsum_congr _ _ _ fun s _ => by
      have := hle s
      have e : lng X s = (syl X).count s := rfl
      rcases Nat.lt_or_ge (lng X s) 1 with h | h
      · rw [← e, show lng X s = 0 by omega]
      · rw [← e, show lng X s = 1 by omega]
    rw [e, this, h2]; simp
  | @more k R Q h p _ ih =>
    intro X hX
    obtain ⟨B, A, hB, hA, hp⟩ := LiesIn.parts hS h p hX
    obtain ⟨Y, hY, hYl, hYs, _, _⟩ := hB.unpair
    obtain ⟨i1, i2, i3⟩ := ih Y hY
    obtain ⟨a1, a2, a3⟩ := hA.single hS
    have hk : 1 ≤ k := by cases h <;> omega
    have hlx : ∀ s, lng X s = lng Y s + (syl A).count s := fun s => by rw [lng_perm hp, lng_app]; simp only [lng, hYs]
    have ha : ∀ s, (syl A).count s ≤ 1 := fun s => List.nodup_iff_count.1 a1 s
    refine ⟨fun s => by rw [hlx]; have := i1 s; have := ha s; omega, ?_, fun s hs => ?_⟩
    · have hs := sums _ a1 a3
      rw [a2] at hs
      have key : nsum (fun s => (syl A).count s * 2 ^ k + (2 ^ k - 2 ^ (k - lng Y s))) ss ≤ nsum (fun s => 2 ^ (k + 1) - 2 ^ (k + 1 - lng X s)) ss := by
        refine nsum_le _ _ _ fun s _ => ?_
        rw [hlx]
        have h1 := i1 s
        have h2 := ha s
        have e1 : 2 ^ (k + 1) = 2 * 2 ^ k := by rw [Nat.pow_succ]; omega
        have e3 : 2 ^ (k - lng Y s) ≤ 2 ^ k := Nat.pow_le_pow_right (by omega) (by omega)
        rcases Nat.lt_or_ge ((syl A).count s) 1 with h | h
        · rw [show (syl A).count s = 0 by omega, Nat.zero_mul, Nat.zero_add, Nat.add_zero (lng Y s), e1]
          have e2 : 2 ^ (k + 1 - lng Y s) = 2 * 2 ^ (k - lng Y s) := by rw [show k + 1 - lng Y s = (k - lng Y s) + 1 by omega, Nat.pow_succ]; omega
          rw [e2]; omega
        · rw [show (syl A).count s = 1 by omega, Nat.one_mul, e1, show k + 1 - (lng Y s + 1) = k - lng Y s by omega]
          omega
      rw [nsum_add, nsum_mul, hs] at key
      have hl := hp.length_eq
      rw [List.length_append] at hl
      have e4 := two_pow_pred k hk
      rw [hl, Nat.add_sub_cancel, Nat.add_mul]
      rw [hYl] at i2
      have e5 : B.length * 2 ^ k = 2 * B.length * 2 ^ (k - 1) := by rw [e4, ← Nat.mul_assoc]; congr 1; omega
      omega
    · have := (syl_perm hp).mem_iff.1 hs
      rw [syl_append, List.mem_append] at this
      rcases this with h | h
      · exact i3 s (hYs ▸ h)
      · exact a3 s h
def isum {α : Type} (f : α → Int) (l : List α) : Int := (l.map f).sum
theorem isum_cons {α : Type} (f : α → Int) (x : α) (l : List α) : isum f (x :: l) = f x + isum f l := by simp [isum]
theorem isum_add {α : Type} (f g : α → Int) (l : List α) : isum (fun x => f x + g x) l = isum f l + isum g l := by
  induction l with
  | nil => rfl
  | cons x l ih => simp only [isum_cons, ih]; omega
theorem isum_le {α : Type} (f g : α → Int) (l : List α) (h : ∀ x ∈ l, f x ≤ g x) : isum f l ≤ isum g l := by
  induction l with
  | nil => exact Int.le_refl _
  | cons x l ih => have := h x (by simp); have := ih fun y hy => h y (by simp [hy]); simp only [isum_cons]; omega
theorem isum_congr {α : Type} (f g : α → Int) (l : List α) (h : ∀ x ∈ l, f x = g x) : isum f l = isum g l := by
  induction l with
  | nil => rfl
  | cons x l ih => have := h x (by simp); have := ih fun y hy => h y (by simp [hy]); simp only [isum_cons]; omega
theorem isum_zero {α : Type} (f : α → Int) (l : List α) (h : ∀ x ∈ l, f x = 0) : isum f l = 0 := by
  induction l with
  | nil => rfl
  | cons x l ih => have := h x (by simp); have := ih fun y hy => h y (by simp [hy]); simp only [isum_cons]; omega
theorem isum_perm {α : Type} (f : α → Int) {l m : List α} (h : l.Perm m) : isum f l = isum f m := by
  induction h with
  | nil => rfl
  | cons x _ ih => simp [isum_cons, ih]
  | swap x y l => simp only [isum_cons]; omega
  | trans _ _ h1 h2 => rw [h1, h2]
theorem nsum_perm {α : Type} (f : α → Nat) {l m : List α} (h : l.Perm m) : nsum f l = nsum f m := by
  induction h with
  | nil => rfl
  | cons x _ ih => simp [nsum_cons, ih]
  | swap x y l => simp only [nsum_cons]; omega
  | trans _ _ h1 h2 => rw [h1, h2]
theorem isum_append {α : Type} (f : α → Int) (l m : List α) : isum f (l ++ m) = isum f l + isum f m := by simp [isum]
theorem nsum_append {α : Type} (f : α → Nat) (l m : List α) : nsum f (l ++ m) = nsum f l + nsum f m := by simp [nsum]
/-- a pack weighs what its symbols weigh -/
theorem RowK.weigh {S R : List Pk} {k : Nat} (w : Int → Int) (hw : ∀ x ∈ S, x.1 = isum w x.2) (h : RowK S k R) : ∀ x ∈ R, x.1 = isum w x.2 := by
  induction h with
  | one R p _ => exact fun x hx => hw x (p.mem_iff.1 hx)
  | @more k R Q h p _ ih =>
    intro x hx
    rcases List.mem_append.1 (p.mem_iff.1 hx) with hx | hx
    · obtain ⟨q, hq, rfl⟩ := List.mem_map.1 hx
      obtain ⟨z, hu, _⟩ := prs_unp R
      have h1 := ih q.1 (by rw [← hu]; exact List.mem_append_left _ (by simp only [unp, List.mem_flatMap]; exact ⟨q, hq, by simp⟩))
      have h2 := ih q.2 (by rw [← hu]; exact List.mem_append_left _ (by simp only [unp, List.mem_flatMap]; exact ⟨q, hq, by simp⟩))
      simp only [pjoin, isum_append]; omega
    · exact hw x hx
theorem wsum_syl (w : Int → Int) : ∀ (X : List Pk), (∀ x ∈ X, x.1 = isum w x.2) → wsum X = isum w (syl X)
  | [], _ => rfl
  | x :: X, h => by rw [wsum_cons, syl_cons, isum_append, h x (by simp), wsum_syl w X fun y hy => h y (by simp [hy])]
theorem isum_count (w : Int → Int) (ss : List Int) (hn : ss.Nodup) : ∀ (L : List Int), (∀ s ∈ L, s ∈ ss) → isum w L = isum (fun s => w s * (L.count s : Nat)) ss
  | [], _ => (isum_zero _ _ fun s _ => by simp).symm
  | x :: L, h => by
    rw [isum_cons, isum_count w ss hn L fun s hs => h s (by simp [hs])]
    have e : isum (fun s => w s * ((x :: L).count s : Nat)) ss = isum (fun s => w s * (L.count s : Nat)) ss + isum (fun s => if s = x then w s else 0) ss := by
      rw [← isum_add]
      refine isum_congr _ _ _ fun s _ => ?_
      rw [List.count_cons]; by_cases h : s = x
      · subst h; simp [Int.mul_add]
      · have : (x == s) = false := by simp; exact fun e => h e.symm
        simp [h, this]
    have hx := h x (by simp)
    have e2 : isum (fun s => if s = x then w s else 0) ss = w x := by
      clear e h
      induction ss with
      | nil => cases hx
      | cons a l ih =>
        obtain ⟨h1, h2⟩ := List.nodup_cons.1 hn
        rw [isum_cons]
        by_cases ha : a = x
        · subst ha
          rw [if_pos rfl, isum_zero _ l fun s hs => by rw [if_neg]; intro e; exact h1 (e ▸ hs)]; omega
        · rw [if_neg ha, ih h2 ((List.mem_cons.1 hx).resolve_left (fun e => ha e.symm))]; omega
    rw [e, e2]; omega
def fN (K l : Nat) : Nat → Nat
  | 0 => 0
  | k + 1 => fN K l k + (if K ≤ l + k then 2 ^ k else 0)
def fC (K l : Nat) : Nat → Nat
  | 0 => 0
  | k + 1 => fC K l k + (if K ≤ l + k then 1 else 0)
theorem fN_16 (l : Nat) (h : l ≤ 16) : fN 16 l 16 + 2 ^ (16 - l) = 2 ^ 16 := by
  have : ∀ l, l < 17 → fN 16 l 16 + 2 ^ (16 - l) = 2 ^ 16 := by decide
  exact this l (by omega)
theorem fC_16 (l : Nat) (h : l ≤ 16) : fC 16 l 16 = l := by
  have : ∀ l, l < 17 → fC 16 l 16 = l := by decide
  exact this l (by omega)
theorem pairs_take : ∀ (R : List Pk) (t : Nat), 2 * t ≤ R.length → wsum ((pkgs R).take t) = wsum (R.take (2 * t))
  | _, 0, _ => by simp
  | a :: b :: l, t + 1, h => by
    have ih := pairs_take l t (by simp at h; omega)
    rw [show 2 * (t + 1) = 2 * t + 1 + 1 by omega, List.take_succ_cons, List.take_succ_cons, wsum_cons, wsum_cons, ← ih]
    simp only [pkgs, prs, List.map_cons, List.take_succ_cons, wsum_cons, pjoin]; omega
  | [a], t + 1, h => by simp at h; omega
  | [], t + 1, h => by simp at h
theorem RowK.lower {S R : List Pk} {k : Nat} (K : Nat) (len : Pk → Nat) (h0 : ∀ x ∈ S, 0 ≤ x.1) (h : RowK S k R) :
    ∃ X, LiesIn X R ∧ X.length = nsum (fun x => fN K (len x) k) S / 2 ^ (k - 1) ∧ wsum X ≤ isum (fun x => x.1 * (fC K (len x) k : Nat)) S := by
  have sel : ∀ k, nsum (fun x => fN K (len x) (k + 1)) S = nsum (fun x => fN K (len x) k) S + (S.filter fun x => decide (K ≤ len x + k)).length * 2 ^ k ∧
      isum (fun x => x.1 * (fC K (len x) (k + 1) : Nat)) S = isum (fun x => x.1 * (fC K (len x) k : Nat)) S + wsum (S.filter fun x => decide (K ≤ len x + k)) := fun k => by
    clear h h0
    induction S with
    | nil => exact ⟨by simp [nsum], by simp [isum, wsum]⟩
    | cons x S ih =>
      simp only [nsum_cons, isum_cons, List.filter_cons]
      rw [ih.1, ih.2]
      by_cases hx : K ≤ len x + k
      · simp only [fN, fC, hx, if_true, decide_true, List.length_cons, wsum_cons, Nat.add_mul, Nat.one_mul]
        refine ⟨by omega, ?_⟩
        push_cast; rw [Int.mul_add]; omega
      · simp only [fN, fC, hx, if_false, decide_false, Bool.false_eq_true]
        exact ⟨by omega, by simp; omega⟩
  have filt : ∀ k, LiesIn (S.filter fun x => decide (K ≤ len x + k)) S := fun k => ⟨_, List.filter_append_perm _ S⟩
  induction h with
  | one R p _ =>
    refine ⟨_, (filt 0).right p.symm, ?_, ?_⟩
    · rw [(sel 0).1, nsum_zero (fun x => fN K (len x) 0) S fun _ _ => rfl]; simp
    · rw [(sel 0).2, isum_zero (fun x => x.1 * (fC K (len x) 0 : Nat)) S fun _ _ => by simp [fC]]; omega
  | @more k R Q h p _ ih =>
    obtain ⟨X, hX, hl, hw⟩ := ih
    have hk : 1 ≤ k := by cases h <;> omega
    have ht := hX.len
    refine ⟨_, ((LiesIn.take (pkgs R) (X.length / 2)).app (filt k)).right p.symm, ?_, ?_⟩
    · rw [(sel k).1, List.length_append, List.length_take, pairs_len, Nat.min_eq_left (by omega), Nat.add_sub_cancel, Nat.add_mul_div_right _ _ (Nat.two_pow_pos k), hl, Nat.div_div_eq_div_mul, ← Nat.pow_succ, show (k - 1).succ = k by omega]
    · rw [(sel k).2, wsum_append, pairs_take R _ (by omega)]
      have := take_least R h.srt (h.nonneg h0) X (2 * (X.length / 2)) hX (by omega)
      omega
theorem prs_mem {R : List Pk} {q : Pk × Pk} (h : q ∈ prs R) : q.1 ∈ R ∧ q.2 ∈ R := by
  obtain ⟨z, hu, _⟩ := prs_unp R
  exact ⟨by rw [← hu]; exact List.mem_append_left _ (by simp only [unp, List.mem_flatMap]; exact ⟨q, h, by simp⟩), by rw [← hu]; exact List.mem_append_left _ (by simp only [unp, List.mem_flatMap]; exact ⟨q, h, by simp⟩)⟩
theorem prs_srt : ∀ (R : List Pk), Srt R → (prs R).Pairwise (fun q p => q.2.1 ≤ p.1.1) ∧ ∀ q ∈ prs R, q.1.1 ≤ q.2.1
  | [], _ => ⟨List.Pairwise.nil, fun q h => by cases h⟩
  | [a], _ => ⟨List.Pairwise.nil, fun q h => by cases h⟩
  | a :: b :: l, h => by
    obtain ⟨h1, h2⟩ := List.pairwise_cons.1 h
    obtain ⟨h3, h4⟩ := List.pairwise_cons.1 h2
    obtain ⟨i1, i2⟩ := prs_srt l h4
    refine ⟨List.pairwise_cons.2 ⟨fun q hq => h3 _ (prs_mem hq).1, i1⟩, fun q hq => ?_⟩
    rcases List.mem_cons.1 hq with rfl | hq
    · exact h1 _ (by simp)
    · exact i2 q hq
/-- a part of a row, with all that is lighter -/
def Low (C Z R : List Pk) : Prop := (C ++ Z).Perm R ∧ ∀ p ∈ C, ∀ q ∈ Z, p.1 ≤ q.1
theorem Low.take {R : List Pk} (h : Srt R) (m : Nat) : Low (R.take m) (R.drop m) R :=
  ⟨by rw [List.take_append_drop], fun p hp q hq => by
    have : (R.take m ++ R.drop m).Pairwise (fun a b => a.1 ≤ b.1) := by rw [List.take_append_drop]; exact h
    exact (List.pairwise_append.1 this).2.2 p hp q hq⟩
theorem prs_last : ∀ (R : List Pk), Srt R → ∀ z, unp (prs R) ++ z = R → ∀ y ∈ z, ∀ x ∈ unp (prs R), x.1 ≤ y.1 := fun R h z e y hy x hx => by
  have : (unp (prs R) ++ z).Pairwise (fun a b => a.1 ≤ b.1) := by rw [e]; exact h
  exact (List.pairwise_append.1 this).2.2 x hx y hy
theorem RowK.order {S R : List Pk} {k : Nat} {ss : List Int} (hS : Sing S ss) (w : Int → Int) (hw : ∀ x ∈ S, x.1 = isum w x.2) (h : RowK S k R) {a b : Int} (hb : b ∈ ss) (hab : w b < w a) :
    ∀ C Z, Low C Z R → lng C a ≤ lng C b := by
  have single : ∀ C Z, (C ++ Z).Perm S → (∀ p ∈ C, ∀ q ∈ Z, p.1 ≤ q.1) → (syl C).count a ≤ (syl C).count b := by
    intro C Z hp hl
    have hsp : (syl C ++ syl Z).Perm ss := by rw [← syl_append, ← hS.syls]; exact syl_perm hp
    have hn := hsp.nodup_iff.2 hS.nd
    have h1 : (syl C).count a ≤ 1 := List.nodup_iff_count.1 (List.nodup_append.1 hn).1 a
    by_cases ha : a ∈ syl C
    · have hbm := hsp.mem_iff.2 hb
      rcases List.mem_append.1 hbm with hbC | hbZ
      · have := List.count_pos_iff.2 hbC; omega
      · exfalso
        obtain ⟨x, hx, hax⟩ := List.mem_flatMap.1 ha
        obtain ⟨y, hy, hby⟩ := List.mem_flatMap.1 hbZ
        have hxS := hp.mem_iff.1 (List.mem_append_left _ hx)
        have hyS := hp.mem_iff.1 (List.mem_append_right _ hy)
        obtain ⟨s, _, es⟩ := hS.one x hxS
        obtain ⟨t, _, et⟩ := hS.one y hyS
        rw [es] at hax; rw [et] at hby
        simp at hax hby
        subst hax; subst hby
        have w1 := hw x hxS
        have w2 := hw y hyS
        rw [es] at w1; rw [et] at w2
        simp [isum] at w1 w2
        have := hl x hx y hy
        omega
    · rw [List.count_eq_zero.2 ha]; omega
  induction h with
  | one R p _ => exact fun C Z hL => single C Z (hL.1.trans p) hL.2
  | @more k R Q h p _ ih =>
    intro C Z hL
    obtain ⟨hp, hl⟩ := hL
    have hz := hp.trans p
    have hpos := h.pos hS
    have h1 : ∀ x ∈ pkgs R, decide (2 ≤ x.2.length) = true := fun x hx => by
      obtain ⟨q, hq, rfl⟩ := List.mem_map.1 hx
      have e1 := hpos q.1 (prs_mem hq).1
      have e2 := hpos q.2 (prs_mem hq).2
      simp only [pjoin, List.length_append, decide_eq_true_eq]; omega
    have h2 : ∀ x ∈ S, decide (2 ≤ x.2.length) = false := fun x hx => by obtain ⟨s, _, e⟩ := hS.one x hx; rw [e]; simp
    have f1 := hz.filter (fun x => decide (2 ≤ x.2.length))
    have f2 := hz.filter (fun x => !decide (2 ≤ x.2.length))
    rw [List.filter_append, List.filter_append, List.filter_eq_self.2 h1, (List.filter_eq_nil_iff (l := S)).2 (fun x hx => by rw [h2 x hx]; simp), List.append_nil] at f1
    rw [List.filter_append, List.filter_append, (List.filter_eq_nil_iff (l := pkgs R)).2 (fun x hx => by rw [h1 x hx]; simp), (List.filter_eq_self (l := S)).2 (fun x hx => by rw [h2 x hx]; rfl), List.nil_append] at f2
    have hC := (List.filter_append_perm (fun x : Pk => decide (2 ≤ x.2.length)) C).symm
    obtain ⟨M, hM, hm⟩ := perm_lift pjoin f1 (prs R) rfl
    obtain ⟨B, B', e, hb1, hb2⟩ := List.map_eq_append_iff.1 hm
    obtain ⟨z, hu, _⟩ := prs_unp R
    obtain ⟨s1, s2⟩ := prs_srt R h.srt
    have hpw : (B ++ B').Pairwise (fun q p => q.2.1 ≤ p.1.1 ∨ p.2.1 ≤ q.1.1) := by
      rw [← e]
      exact (List.Perm.pairwise_iff (R := fun (q p : Pk × Pk) => q.2.1 ≤ p.1.1 ∨ p.2.1 ≤ q.1.1) (fun hh => hh.symm) hM).2 (s1.imp Or.inl)
    have hcross := (List.pairwise_append.1 hpw).2.2
    have hmem : ∀ q, q ∈ B ++ B' → q ∈ prs R := fun q hq => hM.mem_iff.1 (e ▸ hq)
    have hlow : Low (unp B) (unp B' ++ z) R := by
      refine ⟨?_, ?_⟩
      · rw [← List.append_assoc]
        have h3 : (unp M).Perm (unp (prs R)) := hM.flatMap_right _
        have h4 : unp M = unp B ++ unp B' := by rw [e]; simp [unp]
        rw [← h4]
        conv => rhs; rw [← hu]
        exact h3.append_right z
      · intro y hy y' hy'
        simp only [unp, List.mem_flatMap] at hy
        obtain ⟨q, hq, hyq⟩ := hy
        have hqR := hmem q (List.mem_append_left _ hq)
        rcases List.mem_append.1 hy' with hy' | hy'
        · simp only [unp, List.mem_flatMap] at hy'
          obtain ⟨q', hq', hyq'⟩ := hy'
          have hqR' := hmem q' (List.mem_append_right _ hq')
          have c1 := s2 q hqR
          have c2 := s2 q' hqR'
          have c3 := hcross q hq q' hq'
          have c4 : (pjoin q).1 ≤ (pjoin q').1 := by
            refine hl _ ?_ _ ?_
            · exact (List.mem_filter.1 (hb1 ▸ List.mem_map.2 ⟨q, hq, rfl⟩)).1
            · exact (List.mem_filter.1 (hb2 ▸ List.mem_map.2 ⟨q', hq', rfl⟩)).1
          simp only [pjoin] at c4
          simp at hyq hyq'
          rcases hyq with rfl | rfl <;> rcases hyq' with rfl | rfl <;> rcases c3 with c3 | c3 <;> omega
        · exact prs_last R h.srt z hu y' hy' y (by simp only [unp, List.mem_flatMap]; exact ⟨q, hqR, hyq⟩)
    have i1 := ih _ _ hlow
    have e1 : ∀ s, lng C s = lng (unp B) s + (syl (C.filter fun x => !decide (2 ≤ x.2.length))).count s := fun s => by
      rw [lng_perm hC, lng_app]; simp only [lng]; rw [← hb1, syl_join]
    rw [e1, e1]
    have := single _ _ f2 fun p hp q hq => hl p (List.mem_filter.1 hp).1 q (List.mem_filter.1 hq).1
    omega
theorem nsum_const {α : Type} (l : List α) : nsum (fun _ => 1) l = l.length := by
  induction l with
  | nil => rfl
  | cons a l ih => rw [nsum_cons, ih, List.length_cons]; omega
/-- WHAT PACKAGES GIVE: the lengths of the words, as many as a symbol lies in what is taken of the last row. -/
theorem best_spec {S R : List Pk} {ss : List Int} (hS : Sing S ss) (w : Int → Int) (hw : ∀ x ∈ S, x.1 = isum w x.2) (h0 : ∀ s ∈ ss, 0 ≤ w s) (h1 : 1 ≤ ss.length) (h2 : ss.length < 32768) (hR : RowK S 16 R) :
    2 * ss.length - 2 ≤ R.length ∧
    (∀ s, lng (R.take (2 * ss.length - 2)) s ≤ 16) ∧ (∀ s, s ∉ ss → lng (R.take (2 * ss.length - 2)) s = 0) ∧
    nsum (fun s => 2 ^ (16 - lng (R.take (2 * ss.length - 2)) s)) ss ≤ 2 ^ 16 ∧
    (∀ len : Int → Nat, (∀ s ∈ ss, len s ≤ 16) → nsum (fun s => 2 ^ (16 - len s)) ss ≤ 2 ^ 16 → isum (fun s => w s * (lng (R.take (2 * ss.length - 2)) s : Nat)) ss ≤ isum (fun s => w s * (len s : Nat)) ss) ∧
    (∀ a b, b ∈ ss → w b < w a → lng (R.take (2 * ss.length - 2)) a ≤ lng (R.take (2 * ss.length - 2)) b) := by
  have hSl := hS.len
  have hlong := hR.long (by omega)
  have hd : S.length / 2 ^ (16 - 1) = 0 := Nat.div_eq_of_lt (by omega)
  rw [hd] at hlong
  have hlen : 2 * ss.length - 2 ≤ R.length := by omega
  obtain ⟨k1, k2, k3⟩ := hR.kraft hS _ (LiesIn.take R (2 * ss.length - 2))
  have h0S : ∀ x ∈ S, 0 ≤ x.1 := fun x hx => by
    obtain ⟨s, hs, e⟩ := hS.one x hx
    have := hw x hx; rw [e] at this; simp [isum] at this
    have := h0 s hs; omega
  refine ⟨hlen, k1, fun s hs => List.count_eq_zero.2 fun hm => hs (k3 s hm), ?_, ?_, fun a b hb hab => hR.order hS w hw hb hab _ _ (Low.take hR.srt _)⟩
  · rw [List.length_take, Nat.min_eq_left hlen] at k2
    have e : nsum (fun s => 2 ^ 16 - 2 ^ (16 - lng (R.take (2 * ss.length - 2)) s)) ss + nsum (fun s => 2 ^ (16 - lng (R.take (2 * ss.length - 2)) s)) ss = ss.length * 2 ^ 16 := by
      rw [← nsum_add, nsum_congr _ (fun _ => 1 * 2 ^ 16) ss fun s _ => ?_, nsum_mul, nsum_const]
      · have : 2 ^ (16 - lng (R.take (2 * ss.length - 2)) s) ≤ 2 ^ 16 := Nat.pow_le_pow_right (by omega) (by omega)
        omega
    omega
  · intro len hl hk
    obtain ⟨X, hX, hXl, hXw⟩ := hR.lower 16 (fun x => len (x.2.headD 0)) h0S
    have conv1 : nsum (fun x : Pk => fN 16 (len (x.2.headD 0)) 16) S = nsum (fun s => fN 16 (len s) 16) ss := by
      have : S.map (fun x : Pk => fN 16 (len (x.2.headD 0)) 16) = (S.map (·.2)).map fun l => fN 16 (len (l.headD 0)) 16 := by rw [List.map_map]; rfl
      simp only [nsum]; rw [this, hS.syms, List.map_map]; rfl
    have conv2 : isum (fun x : Pk => x.1 * (fC 16 (len (x.2.headD 0)) 16 : Nat)) S = isum (fun s => w s * (len s : Nat)) ss := by
      have e1 : S.map (fun x : Pk => x.1 * (fC 16 (len (x.2.headD 0)) 16 : Nat)) = (S.map (·.2)).map fun l => isum w l * (fC 16 (len (l.headD 0)) 16 : Nat) := by
        rw [List.map_map]; exact List.map_congr_left fun x hx => by simp only [Function.comp]; rw [hw x hx]
      simp only [isum] at e1 ⊢; rw [e1, hS.syms, List.map_map]
      have := isum_congr (fun s => (List.map w [s]).sum * (fC 16 (len s) 16 : Nat)) (fun s => w s * (len s : Nat)) ss fun s hs => by rw [fC_16 _ (hl s hs)]; simp
      simp only [isum] at this
      exact this
    rw [conv1] at hXl
    rw [conv2] at hXw
    have e : nsum (fun s => fN 16 (len s) 16) ss + nsum (fun s => 2 ^ (16 - len s)) ss = ss.length * 2 ^ 16 := by
      rw [← nsum_add, nsum_congr _ (fun _ => 1 * 2 ^ 16) ss fun s hs => by rw [fN_16 _ (hl s hs), Nat.one_mul], nsum_mul, nsum_const]
    have hm : 2 * ss.length - 2 ≤ X.length := by
      rw [hXl, Nat.le_div_iff_mul_le (Nat.two_pow_pos _)]
      rw [show (2 : Nat) ^ 16 = 65536 from rfl] at e hk
      rw [show (16 : Nat) - 1 = 15 from rfl, show (2 : Nat) ^ 15 = 32768 from rfl]
      generalize nsum (fun s => fN 16 (len s) 16) ss = A at e ⊢
      generalize nsum (fun s => 2 ^ (16 - len s)) ss = B at e hk
      clear hXl hXw hX conv1 conv2 hd hlong hlen k1 k2 k3 hl
      omega
    have := take_least R hR.srt (hR.nonneg h0S) X _ hX hm
    have wt : wsum (R.take (2 * ss.length - 2)) = isum (fun s => w s * (lng (R.take (2 * ss.length - 2)) s : Nat)) ss := by
      rw [wsum_syl w _ fun x hx => hR.weigh w hw x (List.mem_of_mem_take hx), isum_count w ss hS.nd _ k3]; rfl
    omega
theorem nsum_mem_le {α : Type} (f : α → Nat) {l : List α} {x : α} (h : x ∈ l) : f x ≤ nsum f l := by
  induction l with
  | nil => cases h
  | cons a l ih => rw [nsum_cons]; rcases List.mem_cons.1 h with rfl | h; omega; have := ih h; omega
theorem nsum_two {α : Type} (f : α → Nat) {l : List α} {x y : α} (hx : x ∈ l) (hy : y ∈ l) (hn : x ≠ y) : f x + f y ≤ nsum f l := by
  induction l with
  | nil => cases hx
  | cons a l ih =>
    rw [nsum_cons]
    rcases List.mem_cons.1 hx with e1 | hx <;> rcases List.mem_cons.1 hy with e2 | hy
    · exact absurd (e1.trans e2.symm) hn
    · have := nsum_mem_le f hy; rw [e1]; omega
    · have := nsum_mem_le f hx; rw [e2]; omega
    · have := ih hx hy; omega
/-- every symbol has a word, if there is more than one -/
theorem kraft_pos {ss : List Int} {f : Int → Nat} (hk : nsum (fun s => 2 ^ (16 - f s)) ss ≤ 2 ^ 16) {a b : Int} (ha : a ∈ ss) (hb : b ∈ ss) (hab : a ≠ b) : 1 ≤ f a := by
  have h1 : 2 ^ (16 - f a) + 2 ^ (16 - f b) ≤ nsum (fun s => 2 ^ (16 - f s)) ss := nsum_two (fun s => 2 ^ (16 - f s)) ha hb hab
  rcases Nat.lt_or_ge (f a) 1 with h | h
  · have : f a = 0 := by omega
    rw [this] at h1
    have : 1 ≤ 2 ^ (16 - f b) := Nat.one_le_two_pow
    omega
  · exact h
end Go.Proofs.YtehbjhocgnfpmaaDoor

/- Maps that a call makes, keyed by ints or by pairs of ints, told by a function from keys to values. -/
namespace Go.Proofs.YtehbjhocgnfpmaaDoor
open Go.RowKit
/-- An entry of a map, the key encoded. -/
def entryOf {K : Type} (enc : K → Value) (x : K × Value × Nat) : MapEntry := { key := enc x.1, val := x.2.1, born := x.2.2 }
/-- The first entry with a key. -/
def findIn {K : Type} [DecidableEq K] (k : K) : List (K × Value × Nat) → Nat → Option (Nat × Value)
  | [], _ => none
  | x :: l, i => if k = x.1 then some (i, x.2.1) else findIn k l (i + 1)
/-- What the laws of a map ask of its keys' type. -/
structure KeyLaw {K : Type} [DecidableEq K] (P : Program) (kt : TypeId) (enc : K → Value) : Prop where
  check : ∀ (w : World) (b : Bool) (k : K), (Instr.checkKey b 10000 kt (enc k)).run P w = .ok () w
  find : ∀ (w : World) (k : K) (l : List (K × Value × Nat)), (Instr.findKey kt (enc k) (l.map (entryOf enc))).run P w = .ok (findIn k l 0) w
  same : ∀ k, Instr.sameBits 10000 (enc k) (enc k) = true
/-- Block b is a map: f tells its values. -/
def MapF {K : Type} [DecidableEq K] (enc : K → Value) (w : World) (b : Nat) (f : K → Option Value) : Prop :=
  ∃ (l : List (K × Value × Nat)) (clock : Nat), w.heap[b]? = some (.map (l.map (entryOf enc)).toArray clock) ∧ ∀ k, (findIn k l 0).map (·.2) = f k
section
variable {K : Type} [DecidableEq K] {P : Program} {enc : K → Value}
theorem findIn_shift (k : K) (l : List (K × Value × Nat)) : ∀ i, findIn k l i = (findIn k l 0).map fun x => (x.1 + i, x.2) := by
  induction l with
  | nil => intro i; rfl
  | cons x l ih =>
    intro i
    simp only [findIn]
    split
    · simp
    · rw [ih (i + 1), ih (0 + 1)]
      cases findIn k l 0 with
      | none => rfl
      | some y => simp; omega
theorem findIn_append (k : K) (l m : List (K × Value × Nat)) : ∀ i, findIn k (l ++ m) i = (findIn k l i).or (findIn k m (i + l.length)) := by
  induction l with
  | nil => intro i; simp [findIn]
  | cons x l ih =>
    intro i
    simp only [List.cons_append, findIn]
    split
    · simp
    · rw [ih, List.length_cons, show i + 1 + l.length = i + (l.length + 1) by omega]
theorem findIn_modify (k j : K) (v : Value) : ∀ (l : List (K × Value × Nat)) (n i : Nat) (u : Value), findIn k l n = some (n + i, u) →
    (findIn j (l.modify i fun e => (k, v, e.2.2)) n).map (·.2) = if j = k then some v else (findIn j l n).map (·.2) := by
  intro l
  induction l with
  | nil => intro n i u h; simp [findIn] at h
  | cons x l ih =>
    intro n i u h
    simp only [findIn] at h
    split at h
    · rename_i hk
      simp only [Option.some.injEq, Prod.mk.injEq] at h
      have hi : i = 0 := by omega
      subst hi
      simp only [List.modify_zero_cons, findIn]
      by_cases hj : j = k
      · simp [hj]
      · have : ¬ j = x.1 := fun e => hj (e.trans hk.symm)
        simp [hj, this]
    · rename_i hk
      cases i with
      | zero =>
        exfalso
        rw [findIn_shift] at h
        cases hf : findIn k l 0 with
        | none => simp [hf] at h
        | some y => simp [hf] at h; omega
      | succ i =>
        simp only [List.modify_succ_cons, findIn]
        have h' : findIn k l (n + 1) = some (n + 1 + i, u) := by rw [h]; congr 2; omega
        split
        · rename_i hj
          have : ¬ j = k := fun e => hk (e ▸ hj)
          simp [this]
        · exact ih (n + 1) i u h'
theorem MapF.new (w : World) : MapF enc (w.alloc (.map #[] 0)) w.heap.size (fun _ => none) :=
  ⟨[], 0, heap_alloc_new w _, fun _ => rfl⟩
theorem MapF.lt {w : World} {b : Nat} {f : K → Option Value} (h : MapF enc w b f) : b < w.heap.size := by
  obtain ⟨l, c, h, _⟩ := h
  exact (Array.getElem?_eq_some_iff.1 h).1
theorem MapF.of_heap {w w' : World} {b : Nat} {f : K → Option Value} (h : MapF enc w b f) (hh : w'.heap[b]? = w.heap[b]?) : MapF enc w' b f := by
  obtain ⟨l, c, h, hf⟩ := h
  exact ⟨l, c, by rw [hh]; exact h, hf⟩
theorem MapF.ext {w w' : World} {b : Nat} {f : K → Option Value} (h : MapF enc w b f) (hE : Ext w w') : MapF enc w' b f := h.of_heap (hE.at h.lt)
theorem shape_map {w : World} {b : Nat} {es : Array MapEntry} {c : Nat} (h : w.heap[b]? = some (.map es c)) : (getObj b : Sem Obj).run P w = .ok (.map es c) w := by
  simp [getObj, Sem.run, h]
/-- 'm[k]'. -/
theorem MapF.lookup {w : World} {b : Nat} {f : K → Option Value} {mt kt et : TypeId} (h : MapF enc w b f) (hm : P.underlying mt = some (.map kt et)) (law : KeyLaw P kt enc) (k : K) (ok : Bool)
    {z : Value} (hz : ∀ w, (zeroValue et).run P w = .ok z w) :
    (Instr.lookup mt (.map (some b)) (enc k) ok).run P w = .ok (if ok then .tuple #[(f k).getD z, .bool (f k).isSome] else (f k).getD z) w := by
  obtain ⟨l, c, hb, hf⟩ := h
  have hfk := hf k
  simp only [Instr.lookup, Sem.run_bind, run_underlying hm, Result.andThen_ok, shape_map hb, Sem.run_pure, law.check, law.find]
  cases hfi : findIn k l 0 with
  | none =>
    rw [hfi] at hfk
    simp only [Option.map_none] at hfk
    rw [← hfk]
    simp [hz]
  | some y =>
    rw [hfi] at hfk
    simp only [Option.map_some] at hfk
    rw [← hfk]
    simp
/-- 'm[k] = v'. -/
theorem MapF.update {w : World} {b : Nat} {f : K → Option Value} {mt kt et : TypeId} (h : MapF enc w b f) (hm : P.underlying mt = some (.map kt et)) (law : KeyLaw P kt enc) (k : K) (v : Value) :
    ∃ w', (Instr.mapUpdate mt (.map (some b)) (enc k) v).run P w = .ok () w' ∧ MapF enc w' b (fun j => if j = k then some v else f j) ∧
      (∀ W, W.heap.size ≤ b → Ext W w → Ext W w') ∧ ∀ i, i ≠ b → w'.heap[i]? = w.heap[i]? := by
  obtain ⟨l, c, hb, hf⟩ := h
  have hlt : b < w.heap.size := (Array.getElem?_eq_some_iff.1 hb).1
  have hset : ∀ o : Obj, (setObj b o).run P w = .ok () { w with heap := w.heap.setIfInBounds b o } := by
    intro o
    simp [setObj, Sem.run, hb]
  have hext : ∀ (o : Obj) W, W.heap.size ≤ b → Ext W w → Ext W { w with heap := w.heap.setIfInBounds b o } := fun o W hW hE =>
    Below.trans hE ⟨rfl, rfl, rfl, by simp, fun i hi => by simp only [Array.getElem?_setIfInBounds]; rw [if_neg (by omega)]⟩
  have hoth : ∀ (o : Obj) i, i ≠ b → ({ w with heap := w.heap.setIfInBounds b o } : World).heap[i]? = w.heap[i]? := fun o i hi => by
    simp only [Array.getElem?_setIfInBounds]; rw [if_neg (fun e => hi e.symm)]
  have hnew : ∀ (o : Obj), ({ w with heap := w.heap.setIfInBounds b o } : World).heap[b]? = some o := fun o => by
    simp [hlt]
  cases hfi : findIn k l 0 with
  | none =>
    refine ⟨{ w with heap := w.heap.setIfInBounds b (.map ((l ++ [(k, v, c)]).map (entryOf enc)).toArray (c + 1)) }, ?_, ⟨l ++ [(k, v, c)], c + 1, hnew _, fun j => ?_⟩, hext _, hoth _⟩
    · simp only [Instr.mapUpdate, Sem.run_bind, run_underlying hm, Result.andThen_ok, shape_map hb, law.check, law.find, hfi]
      rw [hset]
      congr 4
      simp [entryOf]
    · show _ = if j = k then some v else f j
      rw [findIn_append, ← hf j]
      by_cases hj : j = k
      · subst hj; simp [hfi, findIn]
      · cases findIn j l 0 <;> simp [findIn, hj]
  | some y =>
    obtain ⟨i, u⟩ := y
    have hmod := fun j => findIn_modify k j v l 0 i u (by rw [hfi]; simp)
    have hik : ∃ e, l[i]? = some e ∧ e.1 = k := by
      have : ∀ (l : List (K × Value × Nat)) n i u, findIn k l n = some (n + i, u) → ∃ e, l[i]? = some e ∧ e.1 = k := by
        intro l
        induction l with
        | nil => intro n i u h; simp [findIn] at h
        | cons x l ih =>
          intro n i u h
          simp only [findIn] at h
          split at h
          · rename_i hk
            simp only [Option.some.injEq, Prod.mk.injEq] at h
            have hi : i = 0 := by omega
            subst hi
            exact ⟨x, rfl, hk.symm⟩
          · cases i with
            | zero =>
              exfalso
              rw [findIn_shift] at h
              cases hf : findIn k l 0 with
              | none => simp [hf] at h
              | some y => simp [hf] at h; omega
            | succ i => exact ih (n + 1) i u (by rw [h]; congr 2; omega)
      exact this l 0 i u (by rw [hfi]; simp)
    obtain ⟨e, he, hek⟩ := hik
    refine ⟨{ w with heap := w.heap.setIfInBounds b (.map ((l.modify i fun e => (k, v, e.2.2)).map (entryOf enc)).toArray c) }, ?_, ⟨l.modify i fun e => (k, v, e.2.2), c, hnew _, fun j => ?_⟩, hext _, hoth _⟩
    · simp only [Instr.mapUpdate, Sem.run_bind, run_underlying hm, Result.andThen_ok, shape_map hb, law.check, law.find, hfi]
      have hold : (((l.map (entryOf enc)).toArray[i]?).map (·.key)).getD (enc k) = enc k := by simp [he, entryOf, hek]
      rw [hold]
      simp only [Instr.keyThatStays, law.same, if_true, Sem.run_pure, Result.andThen_ok]
      rw [hset]
      congr 4
      apply Array.ext_getElem?
      intro j
      simp only [Array.getElem?_modify, List.getElem?_toArray, List.getElem?_map, List.getElem?_modify]
      by_cases hij : i = j
      · subst hij; simp [he, entryOf]
      · simp [hij]
    · rw [hmod j, hf j]
end
/-- Ints as keys. -/
def ik (n : Int) : Value := .int .i64 n
theorem keyLaw_int {P : Program} {kt : TypeId} (h : P.underlying kt = some (.int .i64)) : KeyLaw P kt ik where
  check w b k := by
    unfold ik
    rw [show (10000 : Nat) = 9999 + 1 from rfl, Instr.checkKey]
    simp [run_underlying h]
  find w k l := by
    have key : ∀ (l : List (Int × Value × Nat)) i, Instr.findNow (.int .i64) (ik k) (l.map (entryOf ik)) i = some (findIn k l i) := by
      intro l
      induction l with
      | nil => intro i; rfl
      | cons x l ih =>
        intro i
        simp only [List.map_cons, Instr.findNow, findIn, entryOf, ik, Instr.sameNow, if_true]
        by_cases hx : k = x.1
        · simp [hx]
        · have : (k == x.1) = false := by simpa using hx
          simp only [this, hx, if_false]
          exact ih (i + 1)
    simp [Instr.findKey, run_underlying h, key]
  same k := by unfold ik; rw [Instr.sameBits.eq_2]; simp
section
variable {K : Type} [DecidableEq K] {P : Program} {enc : K → Value}
theorem wpList_lookup_f {ops : Array Oper} {rest : List Oper} {o : Oper} {a : Act} {w : World} {Q : Exit → Act → World → Prop} (hw : Region.wanted o (yielded ops a.tmps) = true) (mt : TypeId) (x i : Operand) (ok : Bool) (ho : o.op = .lookup mt x i ok)
    (b : Nat) (hx : a.eval x = .map (some b)) (k : K) (hk : a.eval i = enc k) {f : K → Option Value} (h : MapF enc w b f) {kt et : TypeId} (hm : P.underlying mt = some (.map kt et)) (law : KeyLaw P kt enc) (z : Value) (hz : ∀ w, (zeroValue et).run P w = .ok z w)
    (hh : wpList P ops Q rest (a.put o.dst (if ok then .tuple #[(f k).getD z, .bool (f k).isSome] else (f k).getD z)) w) : wpList P ops Q (o :: rest) a w :=
  wpList_wanted hw fun _ hK => by
    have h2 := hK _ _ hh
    unfold Oper.wp execOp
    simp only [ho, hx, hk, Sem.run_bind, h.lookup hm law k ok hz, Result.andThen_ok, Sem.run_pure]
    exact h2
theorem wpList_mapUpdate_f {ops : Array Oper} {rest : List Oper} {o : Oper} {a : Act} {w : World} {Q : Exit → Act → World → Prop} (hgd : o.guard = none) (mt : TypeId) (x i y : Operand) (ho : o.op = .mapUpdate mt x i y)
    (b : Nat) (hx : a.eval x = .map (some b)) (k : K) (hk : a.eval i = enc k) {f : K → Option Value} (h : MapF enc w b f) {kt et : TypeId} (hm : P.underlying mt = some (.map kt et)) (law : KeyLaw P kt enc)
    (hh : ∀ w', MapF enc w' b (fun j => if j = k then some (a.eval y) else f j) → (∀ W, W.heap.size ≤ b → Ext W w → Ext W w') → (∀ i, i ≠ b → w'.heap[i]? = w.heap[i]?) → wpList P ops Q rest (a.put o.dst undef) w') : wpList P ops Q (o :: rest) a w :=
  wpList_plain hgd fun _ hK => by
    obtain ⟨w', hrun, h1, h2, h3⟩ := h.update hm law k (a.eval y)
    have h4 := hK _ _ (hh w' h1 h2 h3)
    unfold Oper.wp execOp
    simp only [ho, hx, hk, Sem.run_bind, hrun, Result.andThen_ok, Sem.run_pure]
    exact h4
end
end Go.Proofs.YtehbjhocgnfpmaaDoor

/- Structs with rows of ints and single values among their fields: cells in parts. -/
namespace Go.Proofs.YtehbjhocgnfpmaaDoor
open Go.RowKit
set_option linter.unusedVariables false
/-- A part of a struct's cells: a row of ints, or one value. -/
inductive Part where
  | ints (l : List Int)
  | val (v : Value)
def Part.cells : Part → List Value
  | .ints l => l.map (Value.int .i64)
  | .val v => [v]
def pcells : List Part → List Value
  | [] => []
  | p :: ps => p.cells ++ pcells ps
/-- Block g holds these parts. -/
def prt (g : Nat) (ps : List Part) : Res := blk g (pcells ps)
/-- The number at a place. -/
inductive AtI : List Part → Nat → List Int → Nat → Prop
  | head {l : List Int} {ps : List Part} {off n : Nat} (hn : Len l n) (h : off < n) : AtI (.ints l :: ps) off l off
  | skipI {l : List Int} {ps : List Part} {off n o2 r : Nat} {l' : List Int} (hn : Len l n) (h : n ≤ off) (ho : off - n = o2) (t : AtI ps o2 l' r) : AtI (.ints l :: ps) off l' r
  | skipV {v : Value} {ps : List Part} {off r : Nat} {l' : List Int} (t : AtI ps off l' r) : AtI (.val v :: ps) (off + 1) l' r
theorem AtI.get {ps : List Part} {off r : Nat} {l : List Int} (h : AtI ps off l r) : (pcells ps)[off]? = some (.int .i64 (nth l r)) := by
  induction h with
  | @head l ps off n hn h =>
    have hl := hn.out
    rw [pcells, Part.cells, List.getElem?_append_left (by simp; omega), List.getElem?_map, get_nth l off (by omega)]; rfl
  | @skipI l ps off n o2 r l' hn h ho t ih =>
    have hl := hn.out
    rw [pcells, Part.cells, List.getElem?_append_right (by simp; omega), List.length_map, hl, ho, ih]
  | @skipV v ps off r l' t ih =>
    rw [pcells, Part.cells, List.singleton_append, List.getElem?_cons_succ, ih]
/-- The value at a place. -/
inductive AtV : List Part → Nat → Value → Prop
  | head {v : Value} {ps : List Part} : AtV (.val v :: ps) 0 v
  | skipI {l : List Int} {ps : List Part} {off n o2 : Nat} {v : Value} (hn : Len l n) (h : n ≤ off) (ho : off - n = o2) (t : AtV ps o2 v) : AtV (.ints l :: ps) off v
  | skipV {u v : Value} {ps : List Part} {off : Nat} (t : AtV ps off v) : AtV (.val u :: ps) (off + 1) v
theorem AtV.get {ps : List Part} {off : Nat} {v : Value} (h : AtV ps off v) : (pcells ps)[off]? = some v := by
  induction h with
  | head => rfl
  | @skipI l ps off n o2 v hn h ho t ih =>
    have hl := hn.out
    rw [pcells, Part.cells, List.getElem?_append_right (by simp; omega), List.length_map, hl, ho, ih]
  | @skipV u v ps off t ih =>
    rw [pcells, Part.cells, List.singleton_append, List.getElem?_cons_succ, ih]
/-- Some cells that are parts: m cells from a place on. -/
inductive Pre : List Part → Nat → List Part → Prop
  | nil {ps : List Part} : Pre ps 0 []
  | ints {l : List Int} {ps ss : List Part} {n m m2 : Nat} (hn : Len l n) (h : n ≤ m) (hm : m - n = m2) (t : Pre ps m2 ss) : Pre (.ints l :: ps) m (.ints l :: ss)
  | val {v : Value} {ps ss : List Part} {m : Nat} (t : Pre ps m ss) : Pre (.val v :: ps) (m + 1) (.val v :: ss)
theorem Pre.take {ps ss : List Part} {m : Nat} (h : Pre ps m ss) : (pcells ps).take m = pcells ss ∧ (pcells ss).length = m := by
  induction h with
  | nil => exact ⟨by simp [pcells], rfl⟩
  | @ints l ps ss n m m2 hn h hm t ih =>
    have hl := hn.out
    refine ⟨?_, by simp only [pcells, Part.cells, List.length_append, List.length_map, ih.2]; omega⟩
    rw [pcells, pcells, Part.cells, List.take_append, List.length_map, hl, hm, ih.1, List.take_of_length_le (by simp; omega)]
  | @val v ps ss m t ih =>
    exact ⟨by simp only [pcells, Part.cells, List.singleton_append, List.take_succ_cons, ih.1], by simp only [pcells, Part.cells, List.singleton_append, List.length_cons, ih.2]⟩
inductive AtP : List Part → Nat → Nat → List Part → Prop
  | head {ps ss : List Part} {m : Nat} (h : Pre ps m ss) : AtP ps 0 m ss
  | skipI {l : List Int} {ps ss : List Part} {off n o2 m : Nat} (hn : Len l n) (h : n ≤ off) (ho : off - n = o2) (t : AtP ps o2 m ss) : AtP (.ints l :: ps) off m ss
  | skipV {u : Value} {ps ss : List Part} {off m : Nat} (t : AtP ps off m ss) : AtP (.val u :: ps) (off + 1) m ss
theorem AtP.get {ps ss : List Part} {off m : Nat} (h : AtP ps off m ss) : ((pcells ps).drop off).take m = pcells ss ∧ (pcells ss).length = m := by
  induction h with
  | head h => rw [List.drop_zero]; exact h.take
  | @skipI l ps ss off n o2 m hn h ho t ih =>
    have hl := hn.out
    rw [pcells, Part.cells, List.drop_append, List.length_map, hl, ho, List.drop_of_length_le (by simp; omega), List.nil_append]; exact ih
  | @skipV u ps ss off m t ih =>
    rw [pcells, Part.cells, List.singleton_append, List.drop_succ_cons]; exact ih
/-- A row of ints alone. -/
inductive AtR : List Part → Nat → Nat → List Int → Prop
  | head {l : List Int} {ps : List Part} {n : Nat} (hn : Len l n) : AtR (.ints l :: ps) 0 n l
  | skipI {l l' : List Int} {ps : List Part} {off n o2 m : Nat} (hn : Len l n) (h : n ≤ off) (ho : off - n = o2) (t : AtR ps o2 m l') : AtR (.ints l :: ps) off m l'
  | skipV {u : Value} {l' : List Int} {ps : List Part} {off m : Nat} (t : AtR ps off m l') : AtR (.val u :: ps) (off + 1) m l'
theorem AtR.get {ps : List Part} {off m : Nat} {l : List Int} (h : AtR ps off m l) : ((pcells ps).drop off).take m = l.map (Value.int .i64) ∧ l.length = m := by
  induction h with
  | @head l ps n hn =>
    have hl := hn.out
    rw [List.drop_zero, pcells, Part.cells, List.take_append, List.length_map, hl, Nat.sub_self, List.take_of_length_le (by simp; omega)]
    exact ⟨by simp, rfl⟩
  | @skipI l l' ps off n o2 m hn h ho t ih =>
    have hl := hn.out
    rw [pcells, Part.cells, List.drop_append, List.length_map, hl, ho, List.drop_of_length_le (by simp; omega), List.nil_append]; exact ih
  | @skipV u l' ps off m t ih =>
    rw [pcells, Part.cells, List.singleton_append, List.drop_succ_cons]; exact ih
section
variable {P : Program} {W w : World} {rs rs' : List Res} {Q : Exit → Act → World → Prop} {K : Act → World → Prop} {o : Oper} {a : Act}
theorem wp_load1P (hS : St W w rs) (ty : TypeId) (x : Operand) (ho : o.op = .load ty x) (g off : Nat) (hx : a.eval x = .pointer (some ⟨g, off, none⟩)) (h1 : One P ty) (ps : List Part) (hp : Pull (prt g ps) rs rs')
    (l : List Int) (r : Nat) (hi : AtI ps off l r) (h : K (a.put o.dst (.int .i64 (nth l r))) w) : o.wp P a w K Q :=
  wp_load1 hS ty x ho g off hx h1 _ hp _ hi.get h
theorem wp_load1PE (hS : St W w rs) (ty : TypeId) (x : Operand) (ho : o.op = .load ty x) (g off : Nat) (hx : a.eval x = .pointer (some ⟨g, off, none⟩)) (h1 : One P ty) (ps : List Part) (hp : Pull (prt g ps) rs rs')
    (l : List Int) (r : Nat) (hi : AtI ps off l r) (z : Int) (hz : nth l r = z) (h : K (a.put o.dst (.int .i64 z)) w) : o.wp P a w K Q :=
  wp_load1P hS ty x ho g off hx h1 ps hp l r hi (by rw [hz]; exact h)
theorem wp_loadVP (hS : St W w rs) (ty : TypeId) (x : Operand) (ho : o.op = .load ty x) (g off : Nat) (hx : a.eval x = .pointer (some ⟨g, off, none⟩)) (h1 : One P ty) (ps : List Part) (hp : Pull (prt g ps) rs rs')
    (v : Value) (hi : AtV ps off v) (h : K (a.put o.dst v) w) : o.wp P a w K Q :=
  wp_load1 hS ty x ho g off hx h1 _ hp _ hi.get h
theorem prt_range {g off m : Nat} {ps : List Part} {cs : List Value} (hS : St W w rs) (hp : Pull (prt g ps) rs rs') (h : ((pcells ps).drop off).take m = cs) : w.rangeAt g off cs := fun j v hv => by
  rw [← h, List.getElem?_take] at hv
  split at hv
  · rw [List.getElem?_drop] at hv
    rw [(St.blk hS hp).1.cell]; simpa using hv
  · cases hv
theorem wp_loadRP (hS : St W w rs) (ty : TypeId) (x : Operand) (ho : o.op = .load ty x) (g off : Nat) (hx : a.eval x = .pointer (some ⟨g, off, none⟩)) (m : Nat) (h1 : RowN P ty m) (ps : List Part) (hp : Pull (prt g ps) rs rs')
    (l : List Int) (hi : AtR ps off m l) (h : K (a.put o.dst (.agg (iv l))) w) : o.wp P a w K Q :=
  wp_loadR ty x ho g off hx m h1 (l.map (Value.int .i64)) (by simpa using hi.get.2) (prt_range hS hp hi.get.1) h
theorem wp_loadPP (hS : St W w rs) (ty : TypeId) (x : Operand) (ho : o.op = .load ty x) (g off : Nat) (hx : a.eval x = .pointer (some ⟨g, off, none⟩)) (m : Nat) (h1 : RowN P ty m) (ps : List Part) (hp : Pull (prt g ps) rs rs')
    (ss : List Part) (hi : AtP ps off m ss) (h : K (a.put o.dst (.agg (pcells ss).toArray)) w) : o.wp P a w K Q :=
  wp_loadR ty x ho g off hx m h1 (pcells ss) hi.get.2 (prt_range hS hp hi.get.1) h
theorem wp_boxP (hS : St W w rs) (ty : TypeId) (x : Operand) (ho : o.op = .box ty x) (ps : List Part) (hx : a.eval x = .agg (pcells ps).toArray)
    (h : ∀ g w', St W w' (prt g ps :: rs) → K (a.put o.dst (.pointer (some ⟨g, 0, none⟩))) w') : o.wp P a w K Q :=
  wp_boxG hS ty x ho (pcells ps) hx h
end
/-- A part that is turned. -/
inductive PutI (z : Int) : List Part → Nat → List Part → Prop
  | head {l : List Int} {ps : List Part} {off n : Nat} (hn : Len l n) (h : off < n) : PutI z (.ints l :: ps) off (.ints (l.set off z) :: ps)
  | skipI {l : List Int} {ps ps' : List Part} {off n o2 : Nat} (hn : Len l n) (h : n ≤ off) (ho : off - n = o2) (t : PutI z ps o2 ps') : PutI z (.ints l :: ps) off (.ints l :: ps')
  | skipV {v : Value} {ps ps' : List Part} {off : Nat} (t : PutI z ps off ps') : PutI z (.val v :: ps) (off + 1) (.val v :: ps')
theorem PutI.eq {z : Int} {ps ps' : List Part} {off : Nat} (h : PutI z ps off ps') : off < (pcells ps).length ∧ pcells ps' = (pcells ps).set off (.int .i64 z) := by
  induction h with
  | @head l ps off n hn h =>
    have hl := hn.out
    refine ⟨by simp [pcells, Part.cells]; omega, ?_⟩
    rw [pcells, pcells, Part.cells, Part.cells, List.set_append_left _ _ (by simp; omega), List.map_set]
  | @skipI l ps ps' off n o2 hn h ho t ih =>
    have hl := hn.out
    refine ⟨by simp [pcells, Part.cells]; omega, ?_⟩
    rw [pcells, pcells, Part.cells, List.set_append_right _ _ (by simp; omega), List.length_map, hl, ho, ih.2]
  | @skipV v ps ps' off t ih =>
    refine ⟨by simp [pcells, Part.cells]; omega, ?_⟩
    rw [pcells, pcells, Part.cells, List.singleton_append, List.singleton_append, List.set_cons_succ, ih.2]
inductive PutV (z : Value) : List Part → Nat → List Part → Prop
  | head {v : Value} {ps : List Part} : PutV z (.val v :: ps) 0 (.val z :: ps)
  | skipI {l : List Int} {ps ps' : List Part} {off n o2 : Nat} (hn : Len l n) (h : n ≤ off) (ho : off - n = o2) (t : PutV z ps o2 ps') : PutV z (.ints l :: ps) off (.ints l :: ps')
  | skipV {v : Value} {ps ps' : List Part} {off : Nat} (t : PutV z ps off ps') : PutV z (.val v :: ps) (off + 1) (.val v :: ps')
theorem PutV.eq {z : Value} {ps ps' : List Part} {off : Nat} (h : PutV z ps off ps') : off < (pcells ps).length ∧ pcells ps' = (pcells ps).set off z := by
  induction h with
  | head => exact ⟨by simp [pcells, Part.cells], rfl⟩
  | @skipI l ps ps' off n o2 hn h ho t ih =>
    have hl := hn.out
    refine ⟨by simp [pcells, Part.cells]; omega, ?_⟩
    rw [pcells, pcells, Part.cells, List.set_append_right _ _ (by simp; omega), List.length_map, hl, ho, ih.2]
  | @skipV v ps ps' off t ih =>
    refine ⟨by simp [pcells, Part.cells]; omega, ?_⟩
    rw [pcells, pcells, Part.cells, List.singleton_append, List.singleton_append, List.set_cons_succ, ih.2]
theorem SetAt.of {v : Value} : ∀ {l : List Value} {i : Nat}, i < l.length → SetAt v i l (l.set i v)
  | [], i, h => by simp at h
  | x :: l, 0, _ => .head
  | x :: l, i + 1, h => .tail (SetAt.of (by simpa using h))
section
variable {P : Program} {W w : World} {rs rs' : List Res} {Q : Exit → Act → World → Prop} {K : Act → World → Prop} {o : Oper} {a : Act}
theorem wp_store1P (hS : St W w rs) (ty : TypeId) (x y : Operand) (ho : o.op = .store ty x y) (g off : Nat) (hx : a.eval x = .pointer (some ⟨g, off, none⟩)) (h1 : One P ty) (ps ps' : List Part) (hp : Pull (prt g ps) rs rs')
    (z : Int) (hy : a.eval y = .int .i64 z) (hi : PutI z ps off ps') (hd : o.dst = none) (h : ∀ w', St W w' (prt g ps' :: rs') → K a w') : o.wp P a w K Q := by
  obtain ⟨h2, h3⟩ := hi.eq
  refine wp_store1 hS ty x y ho g off hx h1 (pcells ps) (pcells ps') hp (.int .i64 z) (.int hy) rfl ?_ hd h
  rw [h3]; exact SetAt.of h2
theorem wp_storeVP (hS : St W w rs) (ty : TypeId) (x y : Operand) (ho : o.op = .store ty x y) (g off : Nat) (hx : a.eval x = .pointer (some ⟨g, off, none⟩)) (h1 : One P ty) (ps ps' : List Part) (hp : Pull (prt g ps) rs rs')
    (z : Value) (hy : IsV (a.eval y) z) (hz : z.oneCell' = true) (hi : PutV z ps off ps') (hd : o.dst = none) (h : ∀ w', St W w' (prt g ps' :: rs') → K a w') : o.wp P a w K Q := by
  obtain ⟨h2, h3⟩ := hi.eq
  refine wp_store1 hS ty x y ho g off hx h1 (pcells ps) (pcells ps') hp z hy hz ?_ hd h
  rw [h3]; exact SetAt.of h2
def partOk : Part → Bool
  | .ints _ => true
  | .val v => v.oneCell'
theorem parts_one : ∀ {ps : List Part}, ps.all partOk = true → (pcells ps).all (·.oneCell') = true
  | [], _ => rfl
  | .ints l :: ps, h => by
    simp only [List.all_cons, Bool.and_eq_true] at h
    simp only [pcells, Part.cells, List.all_append, Bool.and_eq_true]
    refine ⟨?_, parts_one h.2⟩
    rw [List.all_eq_true]; intro u hu; obtain ⟨x, _, rfl⟩ := List.mem_map.1 hu; rfl
  | .val v :: ps, h => by
    simp only [List.all_cons, Bool.and_eq_true] at h
    simp only [pcells, Part.cells, List.all_append, Bool.and_eq_true]
    exact ⟨by simpa [partOk] using h.1, parts_one h.2⟩
theorem wp_storePP (hS : St W w rs) (ty : TypeId) (x y : Operand) (ho : o.op = .store ty x y) (g : Nat) (hx : a.eval x = .pointer (some ⟨g, 0, none⟩)) (m : Nat) (h1 : RowN P ty m) (ps ps' : List Part) (hp : Pull (prt g ps) rs rs')
    (hy : a.eval y = .agg (pcells ps').toArray) (hn : Pre ps m ps) (hn' : Pre ps' m ps') (hv : ps'.all partOk = true) (hd : o.dst = none) (h : ∀ w', St W w' (prt g ps' :: rs') → K a w') : o.wp P a w K Q :=
  wp_storeG hS ty x y ho g hx m h1 (pcells ps) (pcells ps') hp hy hn.take.2 hn'.take.2 (parts_one hv) hd h
theorem wp_allocP (hS : St W w rs) (ty : TypeId) (ho : o.op = .alloc ty) (ps : List Part) (hz : ∀ w, (zeroValue ty).run P w = .ok (.agg (pcells ps).toArray) w)
    (h : ∀ g w', St W w' (prt g ps :: rs) → K (a.put o.dst (.pointer (some ⟨g, 0, none⟩))) w') : o.wp P a w K Q :=
  wp_alloc hS ty ho _ (pcells ps) hz rfl h
end
end Go.Proofs.YtehbjhocgnfpmaaDoor

/- Maps that the call owns. -/
namespace Go.Proofs.YtehbjhocgnfpmaaDoor
open Go.RowKit
set_option linter.unusedVariables false
/-- Block g is a map: f tells its values. -/
def mp {K : Type} [DecidableEq K] (enc : K → Value) (g : Nat) (f : K → Option Value) : Res where
  holds w fp := fp = [g] ∧ MapF enc w g f
  lt := fun ⟨e, h⟩ b hb => by rw [e, List.mem_singleton] at hb; rw [hb]; exact h.lt
  loc := fun ⟨e, h⟩ hs => ⟨e, h.of_heap (hs _ (by rw [e]; simp))⟩
/-- Pairs of ints as keys. -/
def pk (x : Int × Int) : Value := .agg #[.int .i64 x.1, .int .i64 x.2]
theorem pk_iv (x : Int × Int) : pk x = .agg (iv [x.1, x.2]) := rfl
theorem sameBits_pk (k : Int × Int) : Instr.sameBits 10000 (pk k) (pk k) = true := by
  unfold pk
  rw [show (10000 : Nat) = 9999 + 1 from rfl, Instr.sameBits]
  simp [Instr.sameBits.eq_2]
theorem keyLaw_pair {P : Program} {kt e : TypeId} (ht : P.underlying kt = some (.array 2 e)) (he : P.underlying e = some (.int .i64)) (hs : (P.info? e).map (·.size) = some 1) : KeyLaw P kt pk where
  check w b k := by
    have px : ∀ i (v : Value), (#[Value.int .i64 k.1, .int .i64 k.2] : Array Value)[i]? = some v → (part e #[Value.int .i64 k.1, .int .i64 k.2] (i * 1)).run P w = .ok v w := fun i v hv => by
      have e3 : (isAgg e).run P w = .ok false w := by simp [isAgg, run_underlying he]
      rw [run_part, e3, Nat.mul_one, Result.andThen_ok]
      simp only [Bool.false_eq_true, if_false, hv]
    have p0 := px 0 (.int .i64 k.1) rfl
    have p1 := px 1 (.int .i64 k.2) rfl
    have ck : ∀ z : Int, (Instr.checkKey b 9999 e (.int .i64 z)).run P w = .ok () w := fun z => by
      rw [show (9999 : Nat) = 9998 + 1 from rfl, Instr.checkKey]
      simp [run_underlying he]
    have hsz := run_sizeOf' (P := P) w hs
    unfold pk
    rw [show (10000 : Nat) = 9999 + 1 from rfl, Instr.checkKey]
    simp only [Sem.run_bind, run_underlying ht, Result.andThen_ok, Std.Legacy.Range.forIn_eq_forIn_range', Std.Legacy.Range.size, Nat.sub_zero, Nat.add_sub_cancel, Nat.div_one]
    rw [show List.range' 0 2 1 = [0, 1] from rfl]
    simp [hsz, p0, p1, ck]
  find w k l := by
    have key : ∀ (l : List ((Int × Int) × Value × Nat)) i, (Instr.findAsking kt (pk k) (l.map (entryOf pk)) i).run P w = .ok (findIn k l i) w := by
      intro l
      induction l with
      | nil => intro i; rfl
      | cons x l ih =>
        intro i
        have e1 := run_equalIn_iv (P := P) w (Op.maxDepth - 2) kt e 2 ht he (fun w => run_sizeOf' w hs) [k.1, k.2] [x.1.1, x.1.2] rfl rfl
        have e2 : (Op.equal kt (pk k) (pk x.1)).run P w = .ok ([k.1, k.2] == [x.1.1, x.1.2]) w := e1
        simp only [List.map_cons, Instr.findAsking, findIn, entryOf, Sem.run_bind, e2, Result.andThen_ok]
        by_cases hx : k = x.1
        · have : ([k.1, k.2] == [x.1.1, x.1.2]) = true := by rw [hx]; simp
          rw [this]; simp [hx]
        · have : ([k.1, k.2] == [x.1.1, x.1.2]) = false := by
            rw [beq_eq_false_iff_ne]; intro h; injection h with h1 h2; injection h2 with h2 _
            exact hx (Prod.ext h1 h2)
          rw [this]; simp only [hx, Bool.false_eq_true, if_false]
          exact ih (i + 1)
    exact (run_findKey_eq (P := P) (w := w) (k := kt) (by rw [ht]) (pk k) _).trans (key l 0)
  same := sameBits_pk
section
variable {K : Type} [DecidableEq K] {P : Program} {enc : K → Value} {W w : World} {rs rs' : List Res} {Q : Exit → Act → World → Prop} {K' : Act → World → Prop} {o : Oper} {a : Act}
theorem St.mp {g : Nat} {f : K → Option Value} (h : St W w rs) (p : Pull (Go.Proofs.YtehbjhocgnfpmaaDoor.mp enc g f) rs rs') : MapF enc w g f := by
  obtain ⟨_, fp, _, _, f1, f2, e, ⟨e1, h4⟩, _⟩ := h.pull p
  exact h4
/-- A map that is made. -/
theorem wp_makeMap (enc : K → Value) (hS : St W w rs) (t : TypeId) (ho : o.op = .makeMap t none)
    (h : ∀ g w', St W w' (Go.Proofs.YtehbjhocgnfpmaaDoor.mp enc g (fun _ => none) :: rs) → K' (a.put o.dst (.map (some g))) w') : o.wp P a w K' Q := by
  have hE : Ext w (w.alloc (.map #[] 0)) := (Ext.refl w).alloc _
  have hst : St w (w.alloc (.map #[] 0)) [Go.Proofs.YtehbjhocgnfpmaaDoor.mp enc w.heap.size (fun _ => none)] :=
    ⟨hE, [w.heap.size], by simp, by simp, [w.heap.size], [], rfl, ⟨rfl, MapF.new w⟩, rfl⟩
  have hh := h _ _ (hS.call1 hst)
  unfold Oper.wp execOp
  simp only [ho]
  exact hh
theorem wp_lookupS (hS : St W w rs) (mt : TypeId) (x i : Operand) (ho : o.op = .lookup mt x i false) (b : Nat) (hx : a.eval x = .map (some b)) (k : K) (hk : a.eval i = enc k) {kt et : TypeId} (hm : P.underlying mt = some (.map kt et)) (law : KeyLaw P kt enc) (z : Value) (hz : ∀ w, (zeroValue et).run P w = .ok z w)
    (f : K → Option Value) (hp : Pull (Go.Proofs.YtehbjhocgnfpmaaDoor.mp enc b f) rs rs') (v : Value) (hf : f k = some v) (h : K' (a.put o.dst v) w) : o.wp P a w K' Q := by
  have hl := (hS.mp hp).lookup hm law k false hz
  unfold Oper.wp execOp
  simp only [ho, hx, hk, Sem.run_bind, hl, hf, Result.andThen_ok, Sem.run_pure]
  exact h
theorem wp_lookupN (hS : St W w rs) (mt : TypeId) (x i : Operand) (ho : o.op = .lookup mt x i false) (b : Nat) (hx : a.eval x = .map (some b)) (k : K) (hk : a.eval i = enc k) {kt et : TypeId} (hm : P.underlying mt = some (.map kt et)) (law : KeyLaw P kt enc) (z : Value) (hz : ∀ w, (zeroValue et).run P w = .ok z w)
    (f : K → Option Value) (hp : Pull (Go.Proofs.YtehbjhocgnfpmaaDoor.mp enc b f) rs rs') (hf : f k = none) (h : K' (a.put o.dst z) w) : o.wp P a w K' Q := by
  have hl := (hS.mp hp).lookup hm law k false hz
  unfold Oper.wp execOp
  simp only [ho, hx, hk, Sem.run_bind, hl, hf, Result.andThen_ok, Sem.run_pure]
  exact h
theorem wp_lookupS2 (hS : St W w rs) (mt : TypeId) (x i : Operand) (ho : o.op = .lookup mt x i true) (b : Nat) (hx : a.eval x = .map (some b)) (k : K) (hk : a.eval i = enc k) {kt et : TypeId} (hm : P.underlying mt = some (.map kt et)) (law : KeyLaw P kt enc) (z : Value) (hz : ∀ w, (zeroValue et).run P w = .ok z w)
    (f : K → Option Value) (hp : Pull (Go.Proofs.YtehbjhocgnfpmaaDoor.mp enc b f) rs rs') (v : Value) (hf : f k = some v) (h : K' (a.put o.dst (.tuple #[v, .bool true])) w) : o.wp P a w K' Q := by
  have hl := (hS.mp hp).lookup hm law k true hz
  unfold Oper.wp execOp
  simp only [ho, hx, hk, Sem.run_bind, hl, hf, Result.andThen_ok, Sem.run_pure]
  exact h
theorem wp_lookupN2 (hS : St W w rs) (mt : TypeId) (x i : Operand) (ho : o.op = .lookup mt x i true) (b : Nat) (hx : a.eval x = .map (some b)) (k : K) (hk : a.eval i = enc k) {kt et : TypeId} (hm : P.underlying mt = some (.map kt et)) (law : KeyLaw P kt enc) (z : Value) (hz : ∀ w, (zeroValue et).run P w = .ok z w)
    (f : K → Option Value) (hp : Pull (Go.Proofs.YtehbjhocgnfpmaaDoor.mp enc b f) rs rs') (hf : f k = none) (h : K' (a.put o.dst (.tuple #[z, .bool false])) w) : o.wp P a w K' Q := by
  have hl := (hS.mp hp).lookup hm law k true hz
  unfold Oper.wp execOp
  simp only [ho, hx, hk, Sem.run_bind, hl, hf, Result.andThen_ok, Sem.run_pure]
  exact h
/-- 'm[k] = v'. -/
theorem wp_mapUpdate (hS : St W w rs) (mt : TypeId) (x i y : Operand) (ho : o.op = .mapUpdate mt x i y) (b : Nat) (hx : a.eval x = .map (some b)) (k : K) (hk : a.eval i = enc k) {kt et : TypeId} (hm : P.underlying mt = some (.map kt et)) (law : KeyLaw P kt enc)
    (f : K → Option Value) (hp : Pull (Go.Proofs.YtehbjhocgnfpmaaDoor.mp enc b f) rs rs') (v : Value) (hv : IsV (a.eval y) v) (hd : o.dst = none) (h : ∀ w', St W w' (Go.Proofs.YtehbjhocgnfpmaaDoor.mp enc b (fun j => if j = k then some v else f j) :: rs') → K' a w') : o.wp P a w K' Q := by
  obtain ⟨w', hrun, h1, h2, h3⟩ := (hS.mp hp).update hm law k (a.eval y)
  rw [hv.eq] at h1
  have hE0 : Ext ({ w with heap := #[] } : World) w := ⟨rfl, rfl, rfl, by simp, fun i hi => by simp at hi⟩
  have hE1 := h2 _ (by simp) hE0
  have hlt' := h1.lt
  have hsz : w.heap.size ≤ w'.heap.size := by
    by_cases hc : w.heap.size ≤ b + 1
    · omega
    · have e1 := h3 (w.heap.size - 1) (by omega)
      have e2 : w.heap[w.heap.size - 1]? = some (w.heap[w.heap.size - 1]'(by omega)) := Array.getElem?_eq_getElem (by omega)
      rw [e2] at e1
      have := (Array.getElem?_eq_some_iff.1 e1).1
      omega
  have hO : Only [b] w w' := ⟨hE1.os, hE1.tape, hE1.output, hsz, fun i _ hi => h3 i (by simpa using hi)⟩
  have hh := h w' (by
    refine St.change (rs1 := [Go.Proofs.YtehbjhocgnfpmaaDoor.mp enc b (fun j => if j = k then some v else f j)]) (hS.pull hp) fun f1 hf1 _ _ => ?_
    obtain ⟨rfl, _⟩ := hf1
    exact ⟨[b], ⟨[b], [], rfl, ⟨rfl, h1⟩, rfl⟩, by simp, fun c hc => .inl hc, hO⟩)
  unfold Oper.wp execOp
  simp only [ho, hx, hk, Sem.run_bind, hrun, Result.andThen_ok, Sem.run_pure]
  show K' (a.put o.dst undef) _
  rw [hd]
  exact hh
end
end Go.Proofs.YtehbjhocgnfpmaaDoor

/- Things of the call's own, as one thing. -/
namespace Go.Proofs.YtehbjhocgnfpmaaDoor
open Go.RowKit
set_option linter.unusedVariables false
/-- Things of the call's own, as one thing. -/
def star (rs : List Res) : Res := bag fun _ : Unit => rs
theorem St.star0 {W w : World} {rs : List Res} (h : St W w rs) : St W w (Go.Proofs.YtehbjhocgnfpmaaDoor.star [] :: rs) := St.close () h
theorem St.starPut {W w : World} {r : Res} {ss rs rs' : List Res} (h : St W w (Go.Proofs.YtehbjhocgnfpmaaDoor.star ss :: rs)) (p : Pull r rs rs') : St W w (Go.Proofs.YtehbjhocgnfpmaaDoor.star (ss ++ [r]) :: rs') := by
  have h1 : St W w (r :: Go.Proofs.YtehbjhocgnfpmaaDoor.star ss :: rs') := h.pull (.tail p)
  obtain ⟨_, h2⟩ := (h1.pull (.tail .head)).open
  refine St.close () ?_
  have h3 : St W w (ss ++ (r :: rs')) := h2
  simpa using h3
theorem Pull.mem {r : Res} : ∀ {ss : List Res} (rs : List Res), r ∈ ss → ∃ ss', Pull r (ss ++ rs) ss'
  | [], _, h => by cases h
  | x :: ss, rs, h => by
    by_cases hx : r = x
    · subst hx; exact ⟨_, .head⟩
    · obtain ⟨s, hs⟩ := Pull.mem (ss := ss) rs ((List.mem_cons.1 h).resolve_left hx); exact ⟨x :: s, .tail hs⟩
theorem St.starGet {W w : World} {ss rs rs' : List Res} (h : St W w rs) (p : Pull (Go.Proofs.YtehbjhocgnfpmaaDoor.star ss) rs rs') {r : Res} (hr : r ∈ ss) : ∃ rs'', St W w (r :: rs'') := by
  obtain ⟨_, h2⟩ := (h.pull p).open
  obtain ⟨s, hs⟩ := Pull.mem rs' hr
  exact ⟨s, h2.pull hs⟩
theorem own_nil {W w : World} {rs rs' : List Res} {e : TypeId} {s n c : Nat} {ad : Option Addr} {cs : List Value} (hS : St W w rs) (hp : Pull (own e s ad n c cs) rs rs') (h : ad = none) : c = 0 := by
  rcases (hS.own hp).2 with ⟨h1, _⟩ | ⟨g, cap, cur, h1, _⟩
  · cases h1; rfl
  · subst h; cases h1
end Go.Proofs.YtehbjhocgnfpmaaDoor

/- The walk of best.Make: packages merged. -/
namespace Go.Proofs.YtehbjhocgnfpmaaDoor
set_option maxRecDepth 100000
open Go.RowKit
set_option linter.unusedVariables false
theorem bcheckC_any (w : World) (n : Int) : Calls Tryd.prog 63 #[.int .i64 n] w fun e w' => e = .returned (.bool (decide (n < 0) || decide (9999 < n))) ∧ w = w' := by
  by_cases h : n < 0
  · have h2 : decide (n < 0) = true := by simpa using h
    rw [h2]
    go_enter Tryd.func63, Tryd.ntmps63
    go_wp2_with fail
    go_ret
    exact ⟨rfl, rfl⟩
  · have h2 : decide (n < 0) = false := by simpa using h
    rw [h2, Bool.false_or]
    have h3 : 0 ≤ n := by omega
    clear h
    go_enter Tryd.func63, Tryd.ntmps63
    go_wp2_with fail
    go_ret
    exact ⟨rfl, rfl⟩
/-- What best.check answers. -/
def bE (c : List Int) : Int := if 256 < c.length then 2 else if allIn c 0 9999 then 0 else 1
theorem bcheck_any (w0 : World) (c : List Int) (ad : Option Addr) (n cap : Nat) (hv : Sl w0 1 (.slice ad n cap) n (c.map (Value.int .i64))) (hn : n ≤ 9223372036854775807) :
    Calls Tryd.prog 45 #[.slice ad n cap] w0 fun e w => e = .returned (.int .i64 (bE c)) ∧ Ext w0 w := by
  have hl : c.length = n := by have := hv.1; simpa using this
  have hS := St.start w0
  have HC := hid (fun (w : World) (hE : Ext w0 w) => containsFunc_any w (.slice ad n cap) c (by unfold ISl; rw [hl]; exact hv.ext hE) 63 #[] (fun n => decide (n < 0) || decide (9999 < n)) Tryd.call63 (fun m => bcheckC_any w m))
  obtain ⟨B, hB⟩ : ∃ B, c.any (fun n => decide (n < 0) || decide (9999 < n)) = B := ⟨_, rfl⟩
  have hE : bE c = if 256 < n then 2 else if B then 1 else 0 := by
    unfold bE allIn; rw [hl, hB]
    cases B <;> rfl
  rw [hB] at HC
  rw [hE]
  clear hE hB hv
  by_cases h256 : 256 < n
  · rw [if_pos h256]
    go_enter Tryd.func45, Tryd.ntmps45
    repeat' (first
      | ((with_reducible apply gt9 _ (.move _)); (first | go_big_want | go_step); go_step) | ((with_reducible apply gt9 _ (.assign _)); (first | go_big_want | go_step); go_step) | ((with_reducible apply gt9 (some 5) (.call ⟨.builtin .len, _, _⟩)); (refine wvv9 (V.len Tryd.underlying24 rfl) ?_; go_step)) | ((with_reducible apply gt9 (some 6) (.binOp .gtr _ _ _ _)); (refine wvv9 (V.gtr rfl rfl) ?_; go_step)) | ((fail_if_success with_reducible apply ga9); go_step))
    go_ret
    exact ⟨rfl, hS.1⟩
  · rw [if_neg h256]
    cases B with
    | true =>
      rw [if_pos rfl]
      go_enter Tryd.func45, Tryd.ntmps45
      repeat' (first
        | ((with_reducible apply gt9 _ (.move _)); (first | go_big_want | go_step); go_step) | ((with_reducible apply gt9 _ (.assign _)); (first | go_big_want | go_step); go_step) | ((with_reducible apply gt9 (some 5) (.call ⟨.builtin .len, _, _⟩)); (refine wvv9 (V.len Tryd.underlying24 rfl) ?_; go_step)) | ((with_reducible apply gt9 (some 6) (.binOp .gtr _ _ _ _)); (refine wvv9 (V.gtr rfl rfl) ?_; go_step)) | ((fail_if_success with_reducible apply ga9); go_step))
      repeat' (first
        | ((with_reducible apply gt9 _ (.call ⟨.value (.func 62), _, _⟩)); refine wpl_call (f := 62) Tryd.call62 (by kernel_rfl) ?_; refine ⟨_, (HC.out _ hS.1), ?_⟩; rintro e w ⟨rfl, rfl⟩; refine ⟨_, rfl, ?_⟩; refine put_move ?_; go_step) | ((with_reducible apply gt9 _ (.assign _)); (first | go_big_want | go_step); go_step) | ((fail_if_success with_reducible apply ga9); go_step))
      all_goals go_ret
      all_goals exact ⟨rfl, hS.1⟩
    | false =>
      rw [if_neg (by decide)]
      go_enter Tryd.func45, Tryd.ntmps45
      repeat' (first
        | ((with_reducible apply gt9 _ (.move _)); (first | go_big_want | go_step); go_step) | ((with_reducible apply gt9 _ (.assign _)); (first | go_big_want | go_step); go_step) | ((with_reducible apply gt9 (some 5) (.call ⟨.builtin .len, _, _⟩)); (refine wvv9 (V.len Tryd.underlying24 rfl) ?_; go_step)) | ((with_reducible apply gt9 (some 6) (.binOp .gtr _ _ _ _)); (refine wvv9 (V.gtr rfl rfl) ?_; go_step)) | ((fail_if_success with_reducible apply ga9); go_step))
      repeat' (first
        | ((with_reducible apply gt9 _ (.call ⟨.value (.func 62), _, _⟩)); refine wpl_call (f := 62) Tryd.call62 (by kernel_rfl) ?_; refine ⟨_, (HC.out _ hS.1), ?_⟩; rintro e w ⟨rfl, rfl⟩; refine ⟨_, rfl, ?_⟩; refine put_move ?_; go_step) | ((with_reducible apply gt9 _ (.assign _)); (first | go_big_want | go_step); go_step) | ((fail_if_success with_reducible apply ga9); go_step))
      all_goals go_ret
      all_goals exact ⟨rfl, hS.1⟩
/-- A package: its weight, its row of symbols. -/
structure GP where
  w : Int
  r : Sr
def gpV (p : GP) : PkV := ⟨p.w, p.r.ad, p.r.xs.length, p.r.c⟩
def gpM (p : GP) : Pk := (p.w, p.r.xs)
theorem gp_snoc (G : List GP) (p : GP) : ((G ++ [p]).map gpV).flatMap pkE = (G.map gpV).flatMap pkE ++ [.int .i64 p.w, .slice p.r.ad p.r.xs.length p.r.c] := by
  rw [List.map_append, List.flatMap_append]; rfl
theorem gp_app (G H : List GP) : ((G ++ H).map gpV).flatMap pkE = (G.map gpV).flatMap pkE ++ (H.map gpV).flatMap pkE := by
  rw [List.map_append, List.flatMap_append]
/-- The singles of the first k symbols. -/
def sgs (c : List Int) (k : Nat) : List Pk := (0, [-1]) :: ((List.range k).filter fun s => decide (0 < nth c s)).map fun s => (nth c s, [(s : Int)])
theorem sgs_succ (c : List Int) (k : Nat) : sgs c (k + 1) = if 0 < nth c k then sgs c k ++ [(nth c k, [(k : Int)])] else sgs c k := by
  unfold sgs
  rw [List.range_succ, List.filter_append]
  by_cases h : 0 < nth c k
  · rw [if_pos h, List.filter_cons_of_pos (by simpa using h)]; simp
  · rw [if_neg h, List.filter_cons_of_neg (by simpa using h)]; simp
theorem sgs_len (c : List Int) (k : Nat) : (sgs c k).length ≤ k + 1 := by
  unfold sgs
  have := List.length_filter_le (fun s => decide (0 < nth c s)) (List.range k)
  simp at this ⊢
  exact this
theorem RowK.syll {S R : List Pk} {k : Nat} (h : RowK S k R) : (syl R).length ≤ k * (syl S).length := by
  induction h with
  | one R p _ => have := (syl_perm p).length_eq; omega
  | @more k R Q h p _ ih =>
    have h1 := (syl_perm p).length_eq
    rw [syl_append, List.length_append] at h1
    obtain ⟨z, hu, _⟩ := prs_unp R
    have h2 : syl (pkgs R) = syl (unp (prs R)) := syl_join (prs R)
    have h3 := congrArg (fun l => (syl l).length) hu
    simp only [syl_append, List.length_append] at h3
    rw [h2] at h1
    rw [Nat.add_mul, Nat.one_mul]
    omega
theorem syl_mem {R : List Pk} {x : Pk} (h : x ∈ R) : x.2.length ≤ (syl R).length := by
  induction R with
  | nil => cases h
  | cons a R ih =>
    rw [syl_cons, List.length_append]
    rcases List.mem_cons.1 h with rfl | h
    · omega
    · have := ih h; omega
theorem pkgs_take (R : List Pk) (q : Nat) (h : 2 * q + 1 < R.length) : (pkgs R).take (q + 1) = (pkgs R).take q ++ [pjoin (elt R (2 * q), elt R (2 * q + 1))] := by
  induction q generalizing R with
  | zero =>
    match R, h with
    | a :: b :: l, _ => simp [pkgs, prs, elt]
  | succ q ih =>
    match R, h with
    | a :: b :: l, h =>
      have e := ih l (by simp at h; omega)
      have e1 : pkgs (a :: b :: l) = pjoin (a, b) :: pkgs l := by simp [pkgs, prs]
      rw [e1, List.take_succ_cons, e, List.take_succ_cons, List.cons_append]
      congr 3
theorem elt_get {α : Type} [Inhabited α] (l : List α) (i : Nat) (h : i < l.length) : l[i] = elt l i := by simp [elt, h]
theorem gp_at (G : List GP) (k : Nat) (h : k < G.length) : ∃ p, p ∈ G ∧ elt (G.map gpV) k = gpV p ∧ elt (G.map gpM) k = gpM p := by
  refine ⟨G[k], List.getElem_mem h, ?_, ?_⟩
  · simp [elt, h]
  · simp [elt, h]
theorem RowK.wbd {S R : List Pk} {k : Nat} (h0 : ∀ x ∈ S, 0 ≤ x.1 ∧ x.1 ≤ 9999 * x.2.length) (h : RowK S k R) : ∀ x ∈ R, 0 ≤ x.1 ∧ x.1 ≤ 9999 * x.2.length := by
  induction h with
  | one R p _ => exact fun x hx => h0 x (p.mem_iff.1 hx)
  | @more k R Q h p _ ih =>
    intro x hx
    rcases List.mem_append.1 (p.mem_iff.1 hx) with hx | hx
    · obtain ⟨q, hq, rfl⟩ := List.mem_map.1 hx
      have h1 := ih q.1 (prs_mem hq).1
      have h2 := ih q.2 (prs_mem hq).2
      simp only [pjoin, List.length_append]
      push_cast
      omega
    · exact h0 x hx
theorem sgs_bd (c : List Int) (n k : Nat) (h : ∀ i, i < n → 0 ≤ nth c i ∧ nth c i ≤ 9999) (hk : k ≤ n) : ∀ x ∈ sgs c k, 0 ≤ x.1 ∧ x.1 ≤ 9999 * x.2.length := by
  intro x hx
  rcases List.mem_cons.1 hx with rfl | hx
  · simp
  · obtain ⟨s, hs, rfl⟩ := List.mem_map.1 hx
    have h1 := (List.mem_filter.1 hs).1
    have := h s (by simp at h1; omega)
    simp; omega
theorem sgs_syl (c : List Int) (k : Nat) : (syl (sgs c k)).length = (sgs c k).length := by
  have : ∀ l : List Nat, (syl (l.map fun s => (nth c s, [(s : Int)]))).length = l.length := fun l => by
    induction l with
    | nil => rfl
    | cons a l ih => rw [List.map_cons, syl_cons, List.length_append, ih]; simp; omega
  unfold sgs
  rw [syl_cons, List.length_append, this]
  simp; omega
/-- What a row's packages are bounded by. -/
theorem row_bd {c : List Int} {n j : Nat} {R : List Pk} (h : ∀ i, i < n → 0 ≤ nth c i ∧ nth c i ≤ 9999) (hn : n ≤ 256) (hj : j ≤ 16) (hR : RowK (sgs c n) j R) : ∀ x ∈ R, 0 ≤ x.1 ∧ x.1 ≤ 50000000 ∧ x.2.length ≤ 5000 := by
  intro x hx
  have h1 := hR.wbd (sgs_bd c n n h (Nat.le_refl _)) x hx
  have h2 := hR.syll
  have h3 := syl_mem hx
  have h4 := sgs_len c n
  rw [sgs_syl] at h2
  have h5 : j * (sgs c n).length ≤ 16 * 257 := Nat.mul_le_mul hj (by omega)
  omega
/-- How often each comes, as a map holds it. -/
def cntF (l : List Int) (s : Int) : Option Value := if l.count s = 0 then none else some (.int .i64 (l.count s : Nat))
theorem cntF_snoc (l : List Int) (s : Int) : (fun j => if j = s then some (Value.int .i64 ((l.count s + 1 : Nat) : Int)) else cntF l j) = cntF (l ++ [s]) := by
  funext j
  unfold cntF
  rw [List.count_append]
  by_cases h : j = s
  · subst h; simp
  · have : List.count j [s] = 0 := by rw [List.count_eq_zero]; simp [h]
    rw [if_neg h, this, Nat.add_zero]
theorem cntF_nil : cntF [] = fun _ => none := by funext j; simp [cntF]
/-- The symbols whose words have k bits, up to the n-th. -/
def symsK (f : Int → Nat) (n k : Nat) : List Int := ((List.range n).filter fun (s : Nat) => decide (f (s : Int) = k)).map fun (s : Nat) => (s : Int)
theorem symsK_succ (f : Int → Nat) (n k : Nat) : symsK f (n + 1) k = if f (n : Int) = k then symsK f n k ++ [(n : Int)] else symsK f n k := by
  unfold symsK
  rw [List.range_succ, List.filter_append]
  by_cases h : f (n : Int) = k
  · rw [if_pos h, List.filter_cons_of_pos (by simpa using h)]; simp
  · rw [if_neg h, List.filter_cons_of_neg (by simpa using h)]; simp
def symsTo (f : Int → Nat) (n k : Nat) : List Int := (List.range k).flatMap fun i => symsK f n (i + 1)
theorem symsTo_succ (f : Int → Nat) (n k : Nat) : symsTo f n (k + 1) = symsTo f n k ++ symsK f n (k + 1) := by
  unfold symsTo; rw [List.range_succ, List.flatMap_append]; simp
theorem symsK_len (f : Int → Nat) (n k : Nat) : (symsK f n k).length ≤ n := by
  have := List.length_filter_le (fun s : Nat => decide (f (s : Int) = k)) (List.range n)
  simp [symsK] at this ⊢; exact this
theorem symsTo_len (f : Int → Nat) (n k : Nat) : (symsTo f n k).length ≤ k * n := by
  induction k with
  | zero => simp [symsTo]
  | succ k ih => rw [symsTo_succ, List.length_append, Nat.add_mul, Nat.one_mul]; have := symsK_len f n (k + 1); omega
/-- The counts of a table that is under way: whole rows up to k, and row k up to the s-th symbol. -/
def cntTo (f : Int → Nat) (n k s i : Nat) : Int := if i < k then ((symsK f n (i + 1)).length : Nat) else if i = k then ((symsK f s (i + 1)).length : Nat) else 0
end Go.Proofs.YtehbjhocgnfpmaaDoor

/- Lists of bits, the numbers that they write, and bytes: plain mathematics. -/
namespace Go.Proofs.YtehbjhocgnfpmaaDoor
/-- The number that a list of bits writes, the highest bit first. -/
def num (l : List Bool) : Nat := l.foldl (fun a b => 2 * a + b.toNat) 0
theorem num_from (l : List Bool) : ∀ a, l.foldl (fun a b => 2 * a + b.toNat) a = a * 2 ^ l.length + num l := by
  induction l with
  | nil => intro a; simp [num]
  | cons b l ih =>
    intro a
    simp only [num, List.foldl_cons, List.length_cons]
    rw [ih, ih (2 * 0 + b.toNat), Nat.pow_succ, Nat.add_mul, Nat.mul_assoc, Nat.mul_zero, Nat.zero_add]
    have e : a * (2 ^ l.length * 2) = 2 * (a * 2 ^ l.length) := by rw [← Nat.mul_assoc, Nat.mul_comm]
    rw [e]
    omega
theorem num_append (xs ys : List Bool) : num (xs ++ ys) = num xs * 2 ^ ys.length + num ys := by
  unfold num
  rw [List.foldl_append]
  exact num_from ys _
theorem num_snoc (xs : List Bool) (b : Bool) : num (xs ++ [b]) = 2 * num xs + b.toNat := by
  rw [num_append]; simp [num, Nat.mul_comm]
theorem num_nil : num [] = 0 := rfl
theorem num_lt (l : List Bool) : num l < 2 ^ l.length := by
  induction l with
  | nil => simp [num]
  | cons b l ih =>
    have h := num_append [b] l
    simp only [List.singleton_append] at h
    rw [h, List.length_cons, Nat.pow_succ]
    have : num [b] ≤ 1 := by cases b <;> simp [num]
    have h2 : num [b] * 2 ^ l.length ≤ 1 * 2 ^ l.length := Nat.mul_le_mul_right _ this
    omega
/-- The lowest w bits of v, the highest first. -/
def bitsOf : Nat → Nat → List Bool
  | 0, _ => []
  | w + 1, v => bitsOf w (v / 2) ++ [v % 2 == 1]
theorem bitsOf_len (w : Nat) : ∀ v, (bitsOf w v).length = w := by
  induction w with
  | zero => intro v; rfl
  | succ w ih => intro v; simp [bitsOf, ih]
theorem num_bitsOf (w : Nat) : ∀ v, num (bitsOf w v) = v % 2 ^ w := by
  induction w with
  | zero => intro v; simp [bitsOf, num, Nat.mod_one]
  | succ w ih =>
    intro v
    simp only [bitsOf, num_snoc, ih]
    have h1 : (v % 2 == 1).toNat = v % 2 := by
      rcases Nat.mod_two_eq_zero_or_one v with h | h <;> simp [h]
    rw [h1, Nat.pow_succ, Nat.mul_comm (2 ^ w) 2, Nat.mod_mul]
    omega
theorem num_bitsOf_lt (w v : Nat) (h : v < 2 ^ w) : num (bitsOf w v) = v := by rw [num_bitsOf, Nat.mod_eq_of_lt h]
theorem bitsOf_num (l : List Bool) : bitsOf l.length (num l) = l := by
  generalize hn : l.length = n
  induction n generalizing l with
  | zero => have := List.eq_nil_of_length_eq_zero hn; subst this; rfl
  | succ n ih =>
    obtain ⟨l, b, rfl⟩ : ∃ m b, l = m ++ [b] := by
      have hne : l ≠ [] := by intro h; subst h; simp at hn
      exact ⟨l.dropLast, l.getLast hne, (List.dropLast_concat_getLast hne).symm⟩
    rw [num_snoc, bitsOf]
    have h1 : (2 * num l + b.toNat) / 2 = num l := by cases b <;> simp <;> omega
    have h2 : ((2 * num l + b.toNat) % 2 == 1) = b := by cases b <;> simp <;> omega
    rw [h1, h2, ih l (by simpa using hn)]
theorem num_inj (xs ys : List Bool) (hl : xs.length = ys.length) (h : num xs = num ys) : xs = ys := by
  rw [← bitsOf_num xs, ← bitsOf_num ys, hl, h]
theorem bitsOf_add (a b v : Nat) : bitsOf (a + b) v = bitsOf a (v / 2 ^ b) ++ bitsOf b v := by
  induction b generalizing v with
  | zero => simp [bitsOf]
  | succ b ih =>
    rw [← Nat.add_assoc, bitsOf, ih, bitsOf, List.append_assoc, Nat.div_div_eq_div_mul, Nat.pow_succ, Nat.mul_comm 2]
theorem bitsOf_mod (w v : Nat) : bitsOf w (v % 2 ^ w) = bitsOf w v := by
  apply num_inj
  · simp [bitsOf_len]
  · simp [num_bitsOf]
/-- A window of a list of bits, off its number. -/
theorem num_window (l : List Bool) (i n : Nat) (h : i + n ≤ l.length) : num ((l.drop i).take n) = num l / 2 ^ (l.length - i - n) % 2 ^ n := by
  have e1 : l = l.take i ++ ((l.drop i).take n ++ l.drop (i + n)) := by
    rw [← List.drop_drop, List.take_append_drop, List.take_append_drop]
  have hl3 : (l.drop (i + n)).length = l.length - i - n := by simp; omega
  have hl2 : ((l.drop i).take n).length = n := by simp; omega
  have hlt := num_lt (l.drop (i + n))
  have hlt2 := num_lt ((l.drop i).take n)
  rw [hl3] at hlt
  rw [hl2] at hlt2
  conv => rhs; rw [e1]
  have hl0 : (l.take i ++ ((l.drop i).take n ++ l.drop (i + n))).length = l.length := by rw [← e1]
  rw [hl0, num_append, num_append, List.length_append, hl2, hl3]
  generalize num (l.drop (i + n)) = z at *
  generalize num ((l.drop i).take n) = y at *
  generalize num (l.take i) = x at *
  generalize l.length - i - n = m at *
  have hp : 0 < 2 ^ m := Nat.two_pow_pos _
  rw [Nat.pow_add, ← Nat.mul_assoc, ← Nat.add_assoc, ← Nat.add_mul, Nat.add_comm, Nat.add_mul_div_right _ _ hp, Nat.div_eq_of_lt hlt, Nat.zero_add, Nat.add_comm, Nat.add_mul_mod_self_right, Nat.mod_eq_of_lt hlt2]
/-- k whole bytes of a list of bits. -/
def packs : Nat → List Bool → List Nat
  | 0, _ => []
  | k + 1, bs => num (bs.take 8) :: packs k (bs.drop 8)
theorem packs_len (k : Nat) : ∀ bs, (packs k bs).length = k := by
  induction k with
  | zero => intro; rfl
  | succ k ih => intro; simp [packs, ih]
theorem packs_succ (k : Nat) : ∀ bs : List Bool, packs (k + 1) bs = packs k bs ++ [num ((bs.drop (8 * k)).take 8)] := by
  induction k with
  | zero => intro bs; simp [packs]
  | succ k ih =>
    intro bs
    rw [packs, ih, packs, List.cons_append, List.drop_drop]
    congr 3
    rw [show 8 + 8 * k = 8 * (k + 1) by omega]
theorem packs_append (k : Nat) : ∀ (bs cs : List Bool), 8 * k ≤ bs.length → packs k (bs ++ cs) = packs k bs := by
  induction k with
  | zero => intros; rfl
  | succ k ih =>
    intro bs cs h
    rw [packs, packs, List.take_append_of_le_length (by omega), List.drop_append_of_le_length (by omega), ih _ _ (by simp; omega)]
theorem packs_lt (k : Nat) : ∀ bs, ∀ x ∈ packs k bs, x < 256 := by
  induction k with
  | zero => intro bs x hx; simp [packs] at hx
  | succ k ih =>
    intro bs x hx
    rw [packs, List.mem_cons] at hx
    rcases hx with rfl | hx
    · have h := num_lt (bs.take 8)
      have h2 : (bs.take 8).length ≤ 8 := by simp; omega
      have h3 : 2 ^ (bs.take 8).length ≤ 2 ^ 8 := Nat.pow_le_pow_right (by omega) h2
      omega
    · exact ih _ x hx
/-- The bits of bytes. -/
def unpack (l : List Nat) : List Bool := l.flatMap (bitsOf 8)
theorem unpack_len (l : List Nat) : (unpack l).length = 8 * l.length := by
  induction l with
  | nil => rfl
  | cons x l ih => simp [unpack, bitsOf_len] at *; omega
theorem unpack_append (a b : List Nat) : unpack (a ++ b) = unpack a ++ unpack b := by simp [unpack]
theorem unpack_packs (k : Nat) : ∀ bs : List Bool, 8 * k ≤ bs.length → unpack (packs k bs) = bs.take (8 * k) := by
  induction k with
  | zero => intro bs _; rfl
  | succ k ih =>
    intro bs h
    have h8 : (bs.take 8).length = 8 := by simp; omega
    have e : bitsOf 8 (num (bs.take 8)) = bs.take 8 := by
      have := bitsOf_num (bs.take 8)
      rwa [h8] at this
    simp only [packs, unpack, List.flatMap_cons] at *
    rw [e, ih _ (by simp; omega), show 8 * (k + 1) = 8 + 8 * k by omega, List.take_add]
theorem packs_unpack (l : List Nat) (h : ∀ x ∈ l, x < 256) : packs l.length (unpack l) = l := by
  induction l with
  | nil => rfl
  | cons x l ih =>
    have hx := h x (by simp)
    simp only [unpack, List.flatMap_cons, List.length_cons, packs] at *
    rw [List.take_left' (bitsOf_len 8 x), List.drop_left' (bitsOf_len 8 x), num_bitsOf, ih (fun y hy => h y (by simp [hy])), Nat.mod_eq_of_lt (by omega)]
/-- The bytes of a list of bits: the rest is ones. -/
def padding (bs : List Bool) : List Bool := List.replicate ((8 - bs.length % 8) % 8) true
def bytesOf (bs : List Bool) : List Nat := packs ((bs.length + 7) / 8) (bs ++ padding bs)
theorem padding_len (bs : List Bool) : (bs ++ padding bs).length = 8 * ((bs.length + 7) / 8) := by
  simp [padding]; omega
theorem bytesOf_len (bs : List Bool) : (bytesOf bs).length = (bs.length + 7) / 8 := packs_len _ _
theorem unpack_bytesOf (bs : List Bool) : unpack (bytesOf bs) = bs ++ padding bs := by
  rw [bytesOf, unpack_packs _ _ (by rw [padding_len]; exact Nat.le_refl _), ← padding_len, List.take_length]
theorem bytesOf_lt (bs : List Bool) : ∀ x ∈ bytesOf bs, x < 256 := packs_lt _ _
/-- The bit at a place of bytes. -/
theorem bitsOf_get (w v i : Nat) (h : i < w) : (bitsOf w v)[i]? = some (v / 2 ^ (w - 1 - i) % 2 == 1) := by
  induction w generalizing v i with
  | zero => omega
  | succ w ih =>
    rw [bitsOf]
    by_cases hi : i < w
    · rw [List.getElem?_append_left (by rw [bitsOf_len]; exact hi), ih _ _ hi, Nat.div_div_eq_div_mul, ← Nat.pow_succ']
      rw [show (w - 1 - i).succ = w + 1 - 1 - i by omega]
    · have : i = w := by omega
      subst this
      rw [List.getElem?_append_right (by rw [bitsOf_len]; exact Nat.le_refl _), bitsOf_len]
      simp
theorem unpack_get (l : List Nat) (i : Nat) (h : i < 8 * l.length) : (unpack l)[i]? = some (l.getD (i / 8) 0 / 2 ^ (7 - i % 8) % 2 == 1) := by
  induction l generalizing i with
  | nil => simp at h
  | cons x l ih =>
    simp only [unpack, List.flatMap_cons] at *
    by_cases hi : i < 8
    · rw [List.getElem?_append_left (by rw [bitsOf_len]; exact hi), bitsOf_get 8 x i hi]
      have h1 : i / 8 = 0 := by omega
      have h2 : i % 8 = i := by omega
      simp [h1, h2]
    · rw [List.getElem?_append_right (by rw [bitsOf_len]; omega), bitsOf_len, ih (i - 8) (by simp at h; omega)]
      have h1 : i / 8 = (i - 8) / 8 + 1 := by omega
      have h2 : (i - 8) % 8 = i % 8 := by omega
      rw [h1, h2, List.getD_cons_succ]
end Go.Proofs.YtehbjhocgnfpmaaDoor

/- Words of given lengths: the plain law. -/
namespace Go.Proofs.YtehbjhocgnfpmaaDoor
set_option linter.unusedVariables false
/-- What the next word is after k counts, times two from length to length. -/
def nx (c : Nat → Nat) : Nat → Nat
  | 0 => 0
  | k + 1 => 2 * nx c k + c k
/-- The words of the lengths up to k: each its length and its code. -/
def cds (c : Nat → Nat) : Nat → List (Nat × Nat)
  | 0 => []
  | k + 1 => cds c k ++ (List.range (c k)).map fun j => (k + 1, 2 * nx c k + j)
def sm (c : Nat → Nat) : Nat → Nat
  | 0 => 0
  | k + 1 => sm c k + c k
theorem cds_len (c : Nat → Nat) : ∀ k, (cds c k).length = sm c k
  | 0 => rfl
  | k + 1 => by simp [cds, sm, cds_len c k]
/-- Where a word's room begins and ends, of 2 ^ 16. -/
def wlo (x : Nat × Nat) : Nat := x.2 * 2 ^ (16 - x.1)
def whi (x : Nat × Nat) : Nat := (x.2 + 1) * 2 ^ (16 - x.1)
/-- Rooms one behind the other. -/
inductive Tile : Nat → List (Nat × Nat) → Nat → Prop
  | nil {a : Nat} : Tile a [] a
  | cons {x : Nat × Nat} {l : List (Nat × Nat)} {b : Nat} (h : Tile (whi x) l b) : Tile (wlo x) (x :: l) b
theorem Tile.append {a b c : Nat} {l m : List (Nat × Nat)} (h : Tile a l b) (k : Tile b m c) : Tile a (l ++ m) c := by
  induction h with
  | nil => exact k
  | cons h ih => exact .cons (ih k)
theorem tile_row (k s : Nat) : ∀ n a, Tile ((s + a) * 2 ^ (16 - (k + 1))) ((List.range' a n).map fun j => (k + 1, s + j)) ((s + a + n) * 2 ^ (16 - (k + 1)))
  | 0, a => by simpa using Tile.nil
  | n + 1, a => by
    have h := tile_row k s n (a + 1)
    simp only [List.range'_succ, List.map_cons]
    refine Tile.cons (x := (k + 1, s + a)) ?_
    rw [show s + a + (n + 1) = s + (a + 1) + n by omega]
    exact h
theorem tile_cds (c : Nat → Nat) : ∀ k, k ≤ 16 → Tile 0 (cds c k) (nx c k * 2 ^ (16 - k))
  | 0, _ => by simpa [cds, nx] using Tile.nil
  | k + 1, h => by
    have h1 := tile_cds c k (by omega)
    have h2 := tile_row k (2 * nx c k) (c k) 0
    have e : nx c k * 2 ^ (16 - k) = (2 * nx c k + 0) * 2 ^ (16 - (k + 1)) := by
      rw [show 16 - k = (16 - (k + 1)) + 1 by omega, Nat.pow_succ, Nat.add_zero (2 * _), Nat.mul_comm 2 (nx c k), Nat.mul_assoc (nx c k) 2, Nat.mul_comm 2]
    rw [e] at h1
    rw [cds, nx, List.range_eq_range']
    exact h1.append h2
theorem Tile.le {a b : Nat} {l : List (Nat × Nat)} (h : Tile a l b) : a ≤ b := by
  induction h with
  | nil => omega
  | @cons x l b h ih => have : wlo x ≤ whi x := Nat.mul_le_mul_right _ (by omega)
                        omega
theorem Tile.mem {a b : Nat} {l : List (Nat × Nat)} (h : Tile a l b) : ∀ x ∈ l, a ≤ wlo x ∧ whi x ≤ b := by
  induction h with
  | nil => intro x hx; cases hx
  | @cons y l b h ih =>
    intro x hx
    rcases List.mem_cons.1 hx with rfl | hx
    · exact ⟨Nat.le_refl _, h.le⟩
    · have h1 := ih x hx
      have : wlo y ≤ whi y := Nat.mul_le_mul_right _ (by omega)
      omega
theorem Tile.pair {a b : Nat} {l : List (Nat × Nat)} (h : Tile a l b) : l.Pairwise fun x y => whi x ≤ wlo y := by
  induction h with
  | nil => exact List.Pairwise.nil
  | @cons x l b h ih => exact List.Pairwise.cons (fun y hy => (h.mem y hy).1) ih
theorem cds_long (c : Nat → Nat) : ∀ k x, x ∈ cds c k → 1 ≤ x.1 ∧ x.1 ≤ k
  | 0, x, h => by cases h
  | k + 1, x, h => by
    rcases List.mem_append.1 h with h | h
    · have := cds_long c k x h; omega
    · obtain ⟨j, _, rfl⟩ := List.mem_map.1 h
      exact ⟨by simp, by simp⟩
theorem cds_mono (c : Nat → Nat) : ∀ k, (cds c k).Pairwise fun x y => x.1 ≤ y.1
  | 0 => List.Pairwise.nil
  | k + 1 => by
    rw [cds, List.pairwise_append]
    refine ⟨cds_mono c k, ?_, fun x hx y hy => ?_⟩
    · rw [List.pairwise_map]; exact List.Pairwise.imp (fun _ => Nat.le_refl _) (List.pairwise_lt_range)
    · obtain ⟨j, _, rfl⟩ := List.mem_map.1 hy
      have := cds_long c k x hx
      exact Nat.le_succ_of_le this.2
/-- Whether the words have room. -/
def roomy (c : Nat → Nat) : Prop := ∀ k, k < 16 → nx c (k + 1) < 2 ^ (k + 1)
theorem nx_up (c : Nat → Nat) (k : Nat) : ∀ d, nx c k * 2 ^ d ≤ nx c (k + d)
  | 0 => by simp
  | d + 1 => by
    have := nx_up c k d
    rw [← Nat.add_assoc, nx, Nat.pow_succ, ← Nat.mul_assoc]; omega
theorem roomy_iff (c : Nat → Nat) : roomy c ↔ nx c 16 < 65536 := by
  constructor
  · intro h; exact h 15 (by omega)
  · intro h k hk
    have h1 := nx_up c (k + 1) (15 - k)
    rw [show k + 1 + (15 - k) = 16 by omega] at h1
    have h2 : nx c (k + 1) * 2 ^ (15 - k) < 2 ^ (k + 1) * 2 ^ (15 - k) := by
      rw [← Nat.pow_add, show k + 1 + (15 - k) = 16 by omega]; exact Nat.lt_of_le_of_lt h1 h
    exact Nat.lt_of_mul_lt_mul_right h2
theorem cds_lt (c : Nat → Nat) (h : roomy c) (x : Nat × Nat) (hx : x ∈ cds c 16) : x.2 + 1 < 2 ^ x.1 ∧ 1 ≤ x.1 ∧ x.1 ≤ 16 := by
  have h1 := cds_long c 16 x hx
  have h2 := ((tile_cds c 16 (by omega)).mem x hx).2
  have h3 := (roomy_iff c).1 h
  refine ⟨?_, h1.1, h1.2⟩
  have h4 : (x.2 + 1) * 2 ^ (16 - x.1) < 2 ^ x.1 * 2 ^ (16 - x.1) := by
    rw [← Nat.pow_add, show x.1 + (16 - x.1) = 16 by omega]
    have : whi x = (x.2 + 1) * 2 ^ (16 - x.1) := rfl
    simp at h2; omega
  exact Nat.lt_of_mul_lt_mul_right h4
/-- No word begins another. -/
theorem cds_prefix (x y : Nat × Nat) (hx : x.1 ≤ y.1) (hy : y.1 ≤ 16) (h : y.2 / 2 ^ (y.1 - x.1) = x.2) : wlo x ≤ wlo y ∧ wlo y < whi x := by
  have hp : 0 < 2 ^ (y.1 - x.1) := Nat.two_pow_pos _
  have hq : 0 < 2 ^ (16 - y.1) := Nat.two_pow_pos _
  have e : 2 ^ (16 - x.1) = 2 ^ (y.1 - x.1) * 2 ^ (16 - y.1) := by rw [← Nat.pow_add]; congr 1; omega
  have h1 : x.2 * 2 ^ (y.1 - x.1) ≤ y.2 := by rw [← h]; exact Nat.div_mul_le_self _ _
  have h2 : y.2 < (x.2 + 1) * 2 ^ (y.1 - x.1) := by rw [← h, Nat.mul_comm]; exact Nat.lt_mul_div_succ _ hp
  unfold wlo whi
  rw [e, ← Nat.mul_assoc, ← Nat.mul_assoc]
  exact ⟨Nat.mul_le_mul_right _ h1, Nat.mul_lt_mul_of_pos_right h2 hq⟩
theorem cds_apart (c : Nat → Nat) (i j : Nat) (x y : Nat × Nat) (hi : (cds c 16)[i]? = some x) (hj : (cds c 16)[j]? = some y) (hne : i ≠ j) (hl : x.1 ≤ y.1) : ¬ y.2 / 2 ^ (y.1 - x.1) = x.2 := by
  intro h
  have hp := (tile_cds c 16 (by omega)).pair
  have hy := cds_long c 16 y (List.mem_of_getElem? hj)
  obtain ⟨h1, h2⟩ := cds_prefix x y hl hy.2 h
  rw [List.pairwise_iff_getElem] at hp
  obtain ⟨hi1, hi2⟩ := List.getElem?_eq_some_iff.1 hi
  obtain ⟨hj1, hj2⟩ := List.getElem?_eq_some_iff.1 hj
  have hw : ∀ z : Nat × Nat, wlo z < whi z := fun z => Nat.mul_lt_mul_of_pos_right (by omega) (Nat.two_pow_pos _)
  rcases Nat.lt_or_gt_of_ne hne with g | g
  · have := hp i j hi1 hj1 g
    rw [hi2, hj2] at this; omega
  · have := hp j i hj1 hi1 g
    rw [hi2, hj2] at this
    have := hw y
    omega
/-- Counts as natural numbers. -/
def cc (C : List Int) (k : Nat) : Nat := (nth C k).toNat
def totOk (C : List Int) : Bool := (List.range 16).all (fun k => decide (0 ≤ nth C k ∧ nth C k ≤ 256)) && decide (sm (cc C) 16 ≤ 256)
theorem totOk_iff (C : List Int) : totOk C = true ↔ (∀ k, k < 16 → 0 ≤ nth C k ∧ nth C k ≤ 256) ∧ sm (cc C) 16 ≤ 256 := by
  simp [totOk]
def roomB (c : Nat → Nat) : Bool := (List.range 16).all fun k => decide (nx c (k + 1) < 2 ^ (k + 1))
theorem roomB_iff (c : Nat → Nat) : roomB c = true ↔ roomy c := by simp [roomB, roomy]
def symsB (S : List Int) : Bool := S.all fun s => decide (0 ≤ s) && decide (s < 256)
/-- What Check gives. -/
def tabE (C S : List Int) : Int :=
  if totOk C = true ∧ sm (cc C) 16 = S.length then if symsB S then if S.Nodup ∧ roomB (cc C) = true then 0 else 4 else 1 else 4
theorem tabE_ok {C S : List Int} (h : tabE C S = 0) : (∀ k, k < 16 → 0 ≤ nth C k ∧ nth C k ≤ 256) ∧ sm (cc C) 16 = S.length ∧ S.length ≤ 256 ∧ (∀ s ∈ S, 0 ≤ s ∧ s < 256) ∧ S.Nodup ∧ roomy (cc C) := by
  unfold tabE at h
  split at h
  · rename_i h1
    split at h
    · rename_i h2
      split at h
      · rename_i h3
        obtain ⟨h4, h5⟩ := (totOk_iff C).1 h1.1
        refine ⟨h4, h1.2, by omega, ?_, h3.1, (roomB_iff _).1 h3.2⟩
        intro s hs
        have := List.all_eq_true.1 h2 s hs
        simpa using this
      · cases h
    · cases h
  · cases h
theorem tabE_of {C S : List Int} (h1 : totOk C = true) (h2 : sm (cc C) 16 = S.length) (h3 : ∀ s ∈ S, 0 ≤ s ∧ s < 256) (h4 : S.Nodup) (h5 : roomy (cc C)) : tabE C S = 0 := by
  unfold tabE
  rw [if_pos ⟨h1, h2⟩, if_pos, if_pos ⟨h4, (roomB_iff _).2 h5⟩]
  rw [symsB, List.all_eq_true]; intro s hs; simpa using h3 s hs
/-- The words with their symbols. -/
def wds (C S : List Int) : List (Int × Nat × Nat) := S.zip (cds (cc C) 16)
def wfl (l : List (Int × Nat × Nat)) : List Int := l.flatMap fun x => [x.1, (x.2.1 : Int), (x.2.2 : Int)]
theorem wfl_len (l : List (Int × Nat × Nat)) : (wfl l).length = l.length * 3 := by
  induction l with
  | nil => rfl
  | cons x l ih => simp only [wfl, List.flatMap_cons, List.length_append, List.length_cons, List.length_nil] at *; omega
theorem wfl_snoc (l : List (Int × Nat × Nat)) (x : Int × Nat × Nat) : wfl (l ++ [x]) = wfl l ++ [x.1, (x.2.1 : Int), (x.2.2 : Int)] := by simp [wfl]
theorem wfl_get : ∀ (l : List (Int × Nat × Nat)) (k : Nat) (x : Int × Nat × Nat), l[k]? = some x → ((wfl l).drop (k * 3)).take 3 = [x.1, (x.2.1 : Int), (x.2.2 : Int)]
  | [], k, x, h => by simp at h
  | y :: l, 0, x, h => by obtain rfl : y = x := by simpa using h
                          simp [wfl]
  | y :: l, k + 1, x, h => by
    have := wfl_get l k x (by simpa using h)
    rw [show (k + 1) * 3 = k * 3 + 3 by omega]
    simp only [wfl, List.flatMap_cons] at *
    rw [List.drop_append, List.drop_of_length_le (by simp)]
    simpa using this
theorem wfl_nth (l : List (Int × Nat × Nat)) (k : Nat) (x : Int × Nat × Nat) (h : l[k]? = some x) : nth (wfl l) (k * 3) = x.1 ∧ nth (wfl l) (k * 3 + 1) = x.2.1 ∧ nth (wfl l) (k * 3 + 2) = x.2.2 := by
  have e := wfl_get l k x h
  have g : ∀ i, i < 3 → nth (wfl l) (k * 3 + i) = nth [x.1, (x.2.1 : Int), (x.2.2 : Int)] i := fun i hi => by rw [← e, nth_take _ _ _ hi, nth_drop]
  exact ⟨g 0 (by omega), g 1 (by omega), g 2 (by omega)⟩
theorem zip_snoc (S : List Int) (A : List (Nat × Nat)) (x : Nat × Nat) (h : A.length < S.length) : S.zip (A ++ [x]) = S.zip A ++ [(nth S A.length, x)] := by
  apply List.ext_getElem?
  intro i
  rcases Nat.lt_trichotomy i A.length with g | g | g
  · rw [List.getElem?_append_left (by simp; omega)]
    simp only [List.zip, List.getElem?_zipWith]
    rw [List.getElem?_append_left g]
  · subst g
    rw [List.getElem?_append_right (by simp; omega)]
    simp only [List.zip, List.getElem?_zipWith]
    rw [List.getElem?_append_right (by omega), get_nth S _ h, Nat.sub_self, show (List.zipWith Prod.mk S A).length = A.length by simp; omega, Nat.sub_self]
    rfl
  · rw [List.getElem?_eq_none (by simp; omega), List.getElem?_eq_none (by simp; omega)]
theorem wds_len (C S : List Int) (h : sm (cc C) 16 = S.length) : (wds C S).length = S.length := by
  simp [wds, cds_len, h]
theorem wds_get (C S : List Int) (h : sm (cc C) 16 = S.length) (i : Nat) (hi : i < S.length) : ∃ x, (cds (cc C) 16)[i]? = some x ∧ (wds C S)[i]? = some (nth S i, x) := by
  have hl : i < (cds (cc C) 16).length := by rw [cds_len]; omega
  refine ⟨_, List.getElem?_eq_getElem hl, ?_⟩
  simp only [wds, List.zip, List.getElem?_zipWith, get_nth S i hi, List.getElem?_eq_getElem hl]
theorem wds_mem (C S : List Int) (x : Int × Nat × Nat) (hx : x ∈ wds C S) : x.1 ∈ S ∧ x.2 ∈ cds (cc C) 16 := List.of_mem_zip (a := x.1) (b := x.2) hx
/-- The last word of a symbol. -/
def symW (L : List (Int × Nat × Nat)) (s : Int) : Option (Nat × Nat) := (L.reverse.find? fun x => decide (x.1 = s)).map (·.2)
def codW (L : List (Int × Nat × Nat)) (p : Int × Int) : Option Int := (L.reverse.find? fun x => decide (p = ((x.2.1 : Int), (x.2.2 : Int)))).map (·.1)
theorem symW_snoc (L : List (Int × Nat × Nat)) (x : Int × Nat × Nat) (s : Int) : symW (L ++ [x]) s = if s = x.1 then some x.2 else symW L s := by
  unfold symW
  rw [List.reverse_append, List.reverse_singleton, List.singleton_append, List.find?_cons]
  by_cases h : s = x.1
  · simp [h]
  · have : ¬ x.1 = s := fun e => h e.symm
    simp [h, this]
theorem codW_snoc (L : List (Int × Nat × Nat)) (x : Int × Nat × Nat) (p : Int × Int) : codW (L ++ [x]) p = if p = ((x.2.1 : Int), (x.2.2 : Int)) then some x.1 else codW L p := by
  unfold codW
  rw [List.reverse_append, List.reverse_singleton, List.singleton_append, List.find?_cons]
  by_cases h : p = ((x.2.1 : Int), (x.2.2 : Int))
  · simp [h]
  · simp [h]
theorem symW_mem {L : List (Int × Nat × Nat)} {s : Int} {y : Nat × Nat} (h : symW L s = some y) : (s, y) ∈ L := by
  unfold symW at h
  cases hf : L.reverse.find? fun x => decide (x.1 = s) with
  | none => rw [hf] at h; cases h
  | some x =>
    rw [hf] at h
    have h1 := List.mem_of_find?_eq_some hf
    have h2 := List.find?_some hf
    simp only [Option.map_some, Option.some.injEq] at h
    simp only [decide_eq_true_eq] at h2
    subst h; subst h2
    simpa using h1
theorem symW_none {L : List (Int × Nat × Nat)} {s : Int} (h : symW L s = none) : ∀ x ∈ L, x.1 ≠ s := by
  unfold symW at h
  rw [Option.map_eq_none_iff, List.find?_eq_none] at h
  intro x hx
  simpa using h x (by simpa using hx)
theorem codW_mem {L : List (Int × Nat × Nat)} {a b : Nat} {s : Int} (h : codW L ((a : Int), (b : Int)) = some s) : (s, a, b) ∈ L := by
  unfold codW at h
  cases hf : L.reverse.find? fun x => decide (((a : Int), (b : Int)) = ((x.2.1 : Int), (x.2.2 : Int))) with
  | none => rw [hf] at h; cases h
  | some x =>
    rw [hf] at h
    have h1 := List.mem_of_find?_eq_some hf
    have h2 := List.find?_some hf
    simp only [Option.map_some, Option.some.injEq] at h
    simp only [decide_eq_true_eq, Prod.mk.injEq] at h2
    obtain ⟨s', a', b'⟩ := x
    simp only at h h2
    obtain ⟨h3, h4⟩ := h2
    have h5 : a = a' := by omega
    have h6 : b = b' := by omega
    subst h; subst h5; subst h6
    simpa using h1
theorem codW_none {L : List (Int × Nat × Nat)} {a b : Nat} (h : codW L ((a : Int), (b : Int)) = none) : ∀ x ∈ L, x.2 ≠ (a, b) := by
  unfold codW at h
  rw [Option.map_eq_none_iff, List.find?_eq_none] at h
  intro x hx
  have := h x (by simpa using hx)
  intro e
  rw [e] at this
  simp at this
/-- A table that may be: its words are apart. -/
structure Good (L : List (Int × Nat × Nat)) : Prop where
  long : ∀ x ∈ L, 1 ≤ x.2.1 ∧ x.2.1 ≤ 16 ∧ x.2.2 + 1 < 2 ^ x.2.1
  sym : ∀ x ∈ L, ∀ y ∈ L, x.1 = y.1 → x = y
  pre : ∀ x ∈ L, ∀ y ∈ L, x.2.1 ≤ y.2.1 → y.2.2 / 2 ^ (y.2.1 - x.2.1) = x.2.2 → x = y
  range : ∀ x ∈ L, 0 ≤ x.1 ∧ x.1 < 256
theorem wds_good {C S : List Int} (h : tabE C S = 0) : Good (wds C S) := by
  obtain ⟨h1, h2, h3, h4, h5, h6⟩ := tabE_ok h
  have idx : ∀ x ∈ wds C S, ∃ i, i < S.length ∧ x.1 = nth S i ∧ (cds (cc C) 16)[i]? = some x.2 ∧ (wds C S)[i]? = some x := fun x hx => by
    obtain ⟨i, hi, e⟩ := List.getElem_of_mem hx
    rw [wds_len C S h2] at hi
    obtain ⟨y, e1, e2⟩ := wds_get C S h2 i hi
    have e3 : (wds C S)[i]? = some x := by rw [List.getElem?_eq_getElem (by rw [wds_len C S h2]; exact hi), e]
    rw [e2] at e3
    obtain rfl : (nth S i, y) = x := by simpa using e3
    exact ⟨i, hi, rfl, e1, e2⟩
  refine ⟨fun x hx => ?_, fun x hx y hy e => ?_, fun x hx y hy hl hp => ?_, fun x hx => h4 _ (wds_mem C S x hx).1⟩
  · have := cds_lt (cc C) h6 x.2 (wds_mem C S x hx).2
    exact ⟨this.2.1, this.2.2, this.1⟩
  · obtain ⟨i, hi, ei, ci, wi⟩ := idx x hx
    obtain ⟨j, hj, ej, cj, wj⟩ := idx y hy
    have hij : i = j := by
      rw [ei, ej] at e
      have gi := get_nth S i hi
      have gj := get_nth S j hj
      rw [e] at gi
      exact (List.getElem?_inj hi h5).1 (by rw [gi, gj])
    subst hij
    rw [wi] at wj
    simpa using wj
  · obtain ⟨i, hi, ei, ci, wi⟩ := idx x hx
    obtain ⟨j, hj, ej, cj, wj⟩ := idx y hy
    by_cases hij : i = j
    · subst hij; rw [wi] at wj; simpa using wj
    · exact absurd hp (cds_apart (cc C) i j x.2 y.2 ci cj hij hl)
theorem Good.symW {L : List (Int × Nat × Nat)} (h : Good L) {x : Int × Nat × Nat} (hx : x ∈ L) : symW L x.1 = some x.2 := by
  cases hs : Go.Proofs.YtehbjhocgnfpmaaDoor.symW L x.1 with
  | none => exact absurd rfl (symW_none hs x hx)
  | some y =>
    have := h.sym _ (symW_mem hs) x hx rfl
    rw [← this]
theorem Good.codW {L : List (Int × Nat × Nat)} (h : Good L) {x : Int × Nat × Nat} (hx : x ∈ L) : codW L ((x.2.1 : Int), (x.2.2 : Int)) = some x.1 := by
  cases hs : Go.Proofs.YtehbjhocgnfpmaaDoor.codW L ((x.2.1 : Int), (x.2.2 : Int)) with
  | none => exact absurd rfl (codW_none hs x hx)
  | some y =>
    have := h.pre _ (codW_mem hs) x hx (Nat.le_refl _) (by simp)
    rw [← this]
end Go.Proofs.YtehbjhocgnfpmaaDoor

/- The types of this translation: structs in parts. -/
namespace Go.Proofs.YtehbjhocgnfpmaaDoor
theorem zp30 (w : World) : (zeroValue 30).run Tryd.prog w = .ok (.agg (pcells [.ints (List.replicate 16 0), .val (.slice none 0 0)]).toArray) w := by first | exact Tryd.zeroValue30 w | kernel_rfl
theorem zp31 (w : World) : (zeroValue 31).run Tryd.prog w = .ok (.agg (pcells [.ints (List.replicate 16 0), .val (.slice none 0 0)]).toArray) w := by first | exact Tryd.zeroValue31 w | kernel_rfl
theorem zp32 (w : World) : (zeroValue 32).run Tryd.prog w = .ok (.agg (pcells [.ints (List.replicate 16 0), .val (.slice none 0 0), .ints (List.replicate 16 0), .val (.slice none 0 0)]).toArray) w := by first | exact Tryd.zeroValue32 w | kernel_rfl
theorem zp33 (w : World) : (zeroValue 33).run Tryd.prog w = .ok (.agg (pcells [.ints (List.replicate 16 0), .val (.slice none 0 0), .ints (List.replicate 16 0), .val (.slice none 0 0)]).toArray) w := by first | exact Tryd.zeroValue33 w | kernel_rfl
end Go.Proofs.YtehbjhocgnfpmaaDoor
