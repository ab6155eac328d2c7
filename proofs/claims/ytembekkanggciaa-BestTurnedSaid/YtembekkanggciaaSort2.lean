/- The walk of symMergeCmpFunc. -/
import Derived.Test.YtembekkanggciaaSort
namespace Go.Proofs.Ytembekkanggciaa
set_option maxRecDepth 100000
open Go.RowKit
set_option linter.unusedVariables false
set_option maxRecDepth 100000 in
set_option maxHeartbeats 8000000 in
theorem symMerge_any (N : Nat) : ∀ (W w0 : World) (rs rs' : List Res) (g n c a m b : Nat) (P : List PkV), b - a ≤ N → St W w0 rs → Pull (pks g n c P) rs rs' → a < m → m < b → b ≤ n → n ≤ 1000000 → Asc PkV.w a m P → Asc PkV.w m b P →
    Calls Try.prog 33 #[.slice (some ⟨g, 0, none⟩) n c, .int .i64 a, .int .i64 m, .int .i64 b, byW] w0 fun e w => e = .returned (.tuple #[]) ∧ ∃ Q, Asc PkV.w a b Q ∧ Rg a b P Q ∧ St W w (pks g n c Q :: rs') := by
  induction N with
  | zero => intro W w0 rs rs' g n c a m b P hN; omega
  | succ N ih =>
  intro W w0 rs rs' g n c a m b P hN hS hp ham hmb hb hn hA1 hA2
  replace hS := hS.pull hp
  have he := pkE_len
  have h1e := pkE_one
  have hPl := own_recs hS Pull.head pkE_len (by decide)
  have IH := hid ih
  have HA1 := hid hA1
  have HA2 := hid hA2
  clear ih hA1 hA2
  by_cases h1 : m - a = 1
  · obtain rfl : m = a + 1 := by omega
    go_enter Try.func33, Try.ntmps33
    repeat' (first
      | ((with_reducible show wpList _ _ _ (⟨some 27, .binOp .sub _ _ _ _, _, _, _, _⟩ :: _) _ _); (refine wplV (.int _ (1)) (V.as (V.subI rfl rfl (by omega)) (by omega)) rfl ?_; go_step))
      | ((with_reducible show wpList _ _ _ (⟨_, .move _, _, _, _, _⟩ :: _) _ _); (first | go_big_want | go_step); go_step)
      | ((with_reducible show wpList _ _ _ (⟨_, .assign _, _, _, _, _⟩ :: _) _ _); (first | go_big_want | go_step); go_step)
      | ((with_reducible show wpList _ _ _ (⟨some 28, .binOp .eql 3 _ _ _, _, _, _, _⟩ :: _) _ _); (refine wplV _ (V.eql rfl rfl) (by kernel_rfl) ?_; go_step))
      | ((fail_if_success (with_reducible show wpList _ _ _ (_ :: _) _ _)); go_step))
    go_loopg [10, 11] (b - (a + 1)) (fun gk iv jv w => ∃ (i j : Nat), gk + i = j ∧ a + 1 ≤ i ∧ j ≤ b ∧ iv = .int .i64 i ∧ jv = .int .i64 j ∧ (∀ x, a + 1 ≤ x → x < i → wk P x ≤ wk P a) ∧ (∀ x, j ≤ x → x < b → wk P a ≤ wk P x) ∧ St W w (pks g n c P :: rs'))
    case atStart => exact ⟨a + 1, b, by omega, by omega, by omega, rfl, rfl, fun x h1 h2 => by omega, fun x h1 h2 => by omega, hS⟩
    case round =>
      clear hS
      obtain ⟨i, j, hk, hi, hj, rfl, rfl, hlo, hhi, hS⟩ := hrel
      have HLO := hid hlo
      have HHI := hid hhi
      clear hlo hhi
      by_cases hlt : i < j
      · obtain ⟨h, hh⟩ : ∃ h, h = (i + j) / 2 := ⟨_, rfl⟩
        obtain ⟨v, hv⟩ : ∃ v, cmpv (elt P h).w (elt P a).w = v := ⟨_, rfl⟩
        have hv2 := cmpv_lt (elt P h).w (elt P a).w
        rw [hv] at hv2
        have HV := hid hv
        have HV2 := hid hv2
        clear hv hv2
        repeat' (first
          | ((with_reducible show wpList _ _ _ (⟨some 36, .binOp .add _ _ _ _, _, _, _, _⟩ :: _) _ _); (refine wplV (.int _ (((i + j : Nat) : Int))) (V.as (V.addI rfl rfl (by omega)) (by omega)) rfl ?_; go_step))
          | ((with_reducible show wpList _ _ _ (⟨some 38, .binOp .shr _ _ _ _, _, _, _, _⟩ :: _) _ _); (refine wplV (.int _ (((h : Nat) : Int))) (V.as (V.shr rfl rfl (by (repeat (first | exact IsN.auto | with_reducible apply IsN.add | with_reducible apply IsN.sub | with_reducible apply IsN.mul | with_reducible apply IsN.div | with_reducible apply IsN.mod | with_reducible apply IsN.min | with_reducible apply IsN.max | (with_reducible show (_ : Nat) ≤ _; omega) | exact IsN.toNat (by omega)))) (by omega) rfl) (by omega)) rfl ?_; go_step))
          | ((with_reducible show wpList _ _ _ (⟨_, .move _, _, _, _, _⟩ :: _) _ _); (first | go_big_want | go_step); go_step)
          | ((with_reducible show wpList _ _ _ (⟨_, .assign _, _, _, _, _⟩ :: _) _ _); (first | go_big_want | go_step); go_step)
          | ((with_reducible show wpList _ _ _ (⟨some 33, .binOp .lss _ _ _ _, _, _, _, _⟩ :: _) _ _); (refine wplV _ (V.lss rfl rfl) (by kernel_rfl) ?_; go_step))
          | ((with_reducible show wpList _ _ _ (⟨some 37, .convert 3 64 _, _, _, _, _⟩ :: _) _ _); (refine wplV _ (V.convI (by rw [Try.underlying3]; rfl) Try.underlying64 rfl (IntWalk.u64_in _ (by omega))) (by kernel_rfl) ?_; go_step))
          | ((with_reducible show wpList _ _ _ (⟨some 39, .convert 64 3 _, _, _, _, _⟩ :: _) _ _); (refine wplV _ (V.convI (by rw [Try.underlying64]; rfl) Try.underlying3 rfl (IntWalk.i64_in _ (by omega))) (by kernel_rfl) ?_; go_step))
          | ((fail_if_success (with_reducible show wpList _ _ _ (_ :: _) _ _)); go_step))
        refine drawn_lit [9] (fun w => St W w (pks g n c P :: rs')) (by kernel_rfl) ?_
        replace hS := hS.drew
        focus
          refine takeM 0 _ (by (repeat (first | with_reducible exact AtL.head | apply AtL.tail))) (by kernel_rfl) (by kernel_rfl) (by kernel_rfl) (by exact fun _ _ _ _ h => h) rfl ?_
          go_step
          refine takeM 1 _ (by (repeat (first | with_reducible exact AtL.head | apply AtL.tail))) (by kernel_rfl) (by kernel_rfl) (by kernel_rfl) (by exact fun _ _ _ _ h => h) rfl ?_
          go_step
          refine takeM 2 _ (by (repeat (first | with_reducible exact AtL.head | apply AtL.tail))) (by kernel_rfl) (by kernel_rfl) (by kernel_rfl) (by exact fun _ _ _ _ h => h) rfl ?_
          go_step
          (refine takeV 3 _ (by (repeat (first | with_reducible exact AtL.head | apply AtL.tail))) (by kernel_rfl) (by kernel_rfl) (by kernel_rfl) (by exact fun _ _ _ _ h => h) (V.indexSl Try.underlying49 isz48 rfl rfl (by (repeat (first | exact IsN.auto | with_reducible apply IsN.add | with_reducible apply IsN.sub | with_reducible apply IsN.mul | with_reducible apply IsN.div | with_reducible apply IsN.mod | with_reducible apply IsN.min | with_reducible apply IsN.max | (with_reducible show (_ : Nat) ≤ _; omega) | exact IsN.toNat (by omega)))) (by omega) rfl (by first | with_reducible exact Nat.zero_add _ | with_reducible exact Nat.add_zero _ | exact rfl)) rfl ?_)
          go_step
          apply takeS 4 (by (repeat (first | with_reducible exact AtL.head | apply AtL.tail))) (by kernel_rfl) (by kernel_rfl) (by kernel_rfl) (by exact fun _ _ _ _ h => h) [9, 10] (by kernel_rfl) (hS.sub (by (repeat (first | exact Sub.nil | with_reducible exact Sub.refl | (apply Sub.cons; (case p => (repeat (first | with_reducible exact Pull.head | apply Pull.tail)))) | apply Sub.skip))))
          case hfr => intro w hS; ((refine wpl (by kernel_rfl) ?_; apply wp_loadE hS 48 _ rfl _ _ rfl 2 (row_of rfl) _ _ _ _ _; (case hp => (repeat (first | with_reducible exact Pull.head | apply Pull.tail))); (case inst => infer_instance); (case he => with_reducible assumption); (case hq => exact rfl); (case hj => omega); refine put_move ?_; go_step)); refine wpList_nil ?_; exact ⟨rfl, rfl⟩
          case hd => rfl
          refine takeM 5 _ (by (repeat (first | with_reducible exact AtL.head | apply AtL.tail))) (by kernel_rfl) (by kernel_rfl) (by kernel_rfl) (by exact fun _ _ _ _ h => h) rfl ?_
          go_step
          refine takeM 6 _ (by (repeat (first | with_reducible exact AtL.head | apply AtL.tail))) (by kernel_rfl) (by kernel_rfl) (by kernel_rfl) (by exact fun _ _ _ _ h => h) rfl ?_
          go_step
          (refine takeV 7 _ (by (repeat (first | with_reducible exact AtL.head | apply AtL.tail))) (by kernel_rfl) (by kernel_rfl) (by kernel_rfl) (by exact fun _ _ _ _ h => h) (V.indexSl Try.underlying49 isz48 rfl rfl (by (repeat (first | exact IsN.auto | with_reducible apply IsN.add | with_reducible apply IsN.sub | with_reducible apply IsN.mul | with_reducible apply IsN.div | with_reducible apply IsN.mod | with_reducible apply IsN.min | with_reducible apply IsN.max | (with_reducible show (_ : Nat) ≤ _; omega) | exact IsN.toNat (by omega)))) (by omega) rfl (by first | with_reducible exact Nat.zero_add _ | with_reducible exact Nat.add_zero _ | exact rfl)) rfl ?_)
          go_step
          apply takeS 8 (by (repeat (first | with_reducible exact AtL.head | apply AtL.tail))) (by kernel_rfl) (by kernel_rfl) (by kernel_rfl) (by exact fun _ _ _ _ h => h) [9, 10] (by kernel_rfl) (hS.sub (by (repeat (first | exact Sub.nil | with_reducible exact Sub.refl | (apply Sub.cons; (case p => (repeat (first | with_reducible exact Pull.head | apply Pull.tail)))) | apply Sub.skip))))
          case hfr => intro w hS; ((refine wpl (by kernel_rfl) ?_; apply wp_loadE hS 48 _ rfl _ _ rfl 2 (row_of rfl) _ _ _ _ _; (case hp => (repeat (first | with_reducible exact Pull.head | apply Pull.tail))); (case inst => infer_instance); (case he => with_reducible assumption); (case hq => exact rfl); (case hj => omega); refine put_move ?_; go_step)); refine wpList_nil ?_; exact ⟨rfl, rfl⟩
          case hd => rfl
          refine branch1 9 (by (repeat (first | with_reducible exact AtL.head | apply AtL.tail))) rfl (by kernel_rfl) ?_
          refine wp_callV (f := 20) rfl rfl Try.call20 (byWeight_any _ (elt P h) (elt P a)) ?_; rintro e w ⟨rfl, hE⟩; replace hS := hS.ext hE; clear hE; rw [HV.out]; refine ⟨_, rfl, ?_⟩
          refine ⟨fun h => absurd (by decide) h, ?_⟩
          refine drawn_move ?_
          go_step
          (refine takeV 10 _ (by (repeat (first | with_reducible exact AtL.head | apply AtL.tail))) (by kernel_rfl) (by kernel_rfl) (by kernel_rfl) (by exact fun _ _ _ _ h => h) (V.lss rfl rfl) rfl ?_)
          go_step
          refine drawn_done (by kernel_rfl) ?_ _
        by_cases hc : v < 0
        · skip
          repeat' (first
            | ((with_reducible show wpList _ _ _ (⟨some 52, .binOp .add _ _ _ _, _, _, _, _⟩ :: _) _ _); (refine wplV (.int _ (((h + 1 : Nat) : Int))) (V.as (V.addI rfl rfl (by omega)) (by omega)) rfl ?_; go_step))
            | ((with_reducible show wpList _ _ _ (⟨_, .move _, _, _, _, _⟩ :: _) _ _); (first | go_big_want | go_step); go_step)
            | ((with_reducible show wpList _ _ _ (⟨_, .assign _, _, _, _, _⟩ :: _) _ _); (first | go_big_want | go_step); go_step)
            | ((fail_if_success (with_reducible show wpList _ _ _ (_ :: _) _ _)); go_step))
          go_roundg (j - (h + 1))
          case measure => omega
          case rel =>
            refine ⟨h + 1, j, by omega, by omega, by omega, by go_num, rfl, fun x k1 k2 => ?_, HHI.out, hS⟩
            have := HA2.out x h k1 (by omega) (by omega)
            have := HV2.out.1 hc
            show (elt P x).w ≤ (elt P a).w
            omega
        · skip
          repeat' (first
            | ((with_reducible show wpList _ _ _ (⟨_, .move _, _, _, _, _⟩ :: _) _ _); (first | go_big_want | go_step); go_step)
            | ((with_reducible show wpList _ _ _ (⟨_, .assign _, _, _, _, _⟩ :: _) _ _); (first | go_big_want | go_step); go_step)
            | ((fail_if_success (with_reducible show wpList _ _ _ (_ :: _) _ _)); go_step))
          go_roundg (h - i)
          case measure => omega
          case rel =>
            refine ⟨i, h, by omega, by omega, by omega, rfl, by go_num, HLO.out, fun x k1 k2 => ?_, hS⟩
            have := HA2.out h x (by omega) k1 (by omega)
            have := HV2.out
            show (elt P a).w ≤ (elt P x).w
            omega
      · obtain rfl : i = j := by omega
        obtain ⟨p, rfl⟩ : ∃ p, i = p + 1 := ⟨i - 1, by omega⟩
        repeat' (first
          | ((with_reducible show wpList _ _ _ (⟨_, .move _, _, _, _, _⟩ :: _) _ _); (first | go_big_want | go_step); go_step)
          | ((with_reducible show wpList _ _ _ (⟨_, .assign _, _, _, _, _⟩ :: _) _ _); (first | go_big_want | go_step); go_step)
          | ((with_reducible show wpList _ _ _ (⟨some 33, .binOp .lss _ _ _ _, _, _, _, _⟩ :: _) _ _); (refine wplV _ (V.lss rfl rfl) (by kernel_rfl) ?_; go_step))
          | ((fail_if_success (with_reducible show wpList _ _ _ (_ :: _) _ _)); go_step))
        repeat' (first
          | ((fail_if_success (with_reducible show wpList _ _ _ (_ :: _) _ _)); go_step))
        go_loopg [13] (p - a) (fun gk kv w => ∃ (k : Nat) (Q : List PkV), gk + k = p ∧ a ≤ k ∧ kv = .int .i64 k ∧ Upw a k P Q ∧ Rg a b P Q ∧ St W w (pks g n c Q :: rs'))
        case atStart => exact ⟨a, P, by omega, by omega, rfl, Upw.refl a P, Rg.refl a b P, hS⟩
        case round =>
          clear hS
          obtain ⟨k, Q, hk2, hak, rfl, hU, hR, hS⟩ := hrel
          have HU := hid hU
          have HR := hid hR
          clear hU hR
          by_cases hlt2 : k < p
          · skip
            repeat' (first
              | ((with_reducible show wpList _ _ _ (⟨some 57, .binOp .sub _ _ _ _, _, _, _, _⟩ :: _) _ _); (refine wplV (.int _ (((p : Nat) : Int))) (V.as (V.subI rfl rfl (by omega)) (by omega)) rfl ?_; go_step))
              | ((with_reducible show wpList _ _ _ (⟨_, .move _, _, _, _, _⟩ :: _) _ _); (first | go_big_want | go_step); go_step)
              | ((with_reducible show wpList _ _ _ (⟨some 58, .binOp .lss _ _ _ _, _, _, _, _⟩ :: _) _ _); (refine wplV _ (V.lss rfl rfl) (by kernel_rfl) ?_; go_step))
              | ((fail_if_success (with_reducible show wpList _ _ _ (_ :: _) _ _)); go_step))
            refine drawn_lit [15, 17] (fun w => St W w (pks g n c Q :: rs')) (by kernel_rfl) ?_
            replace hS := hS.drew
            focus
              refine takeM 0 _ (by (repeat (first | with_reducible exact AtL.head | apply AtL.tail))) (by kernel_rfl) (by kernel_rfl) (by kernel_rfl) (by exact fun _ _ _ _ h => h) rfl ?_
              go_step
              refine takeM 1 _ (by (repeat (first | with_reducible exact AtL.head | apply AtL.tail))) (by kernel_rfl) (by kernel_rfl) (by kernel_rfl) (by exact fun _ _ _ _ h => h) rfl ?_
              go_step
              refine takeM 2 _ (by (repeat (first | with_reducible exact AtL.head | apply AtL.tail))) (by kernel_rfl) (by kernel_rfl) (by kernel_rfl) (by exact fun _ _ _ _ h => h) rfl ?_
              go_step
              refine takeM 3 _ (by (repeat (first | with_reducible exact AtL.head | apply AtL.tail))) (by kernel_rfl) (by kernel_rfl) (by kernel_rfl) (by exact fun _ _ _ _ h => h) rfl ?_
              go_step
              (refine takeV 4 (.int _ (((k + 1 : Nat) : Int))) (by (repeat (first | with_reducible exact AtL.head | apply AtL.tail))) (by kernel_rfl) (by kernel_rfl) (by kernel_rfl) (by exact fun _ _ _ _ h => h) (V.as (V.addI rfl rfl (by omega)) (by omega)) rfl ?_)
              go_step
              refine takeM 5 _ (by (repeat (first | with_reducible exact AtL.head | apply AtL.tail))) (by kernel_rfl) (by kernel_rfl) (by kernel_rfl) (by exact fun _ _ _ _ h => h) rfl ?_
              go_step
              refine takeM 6 _ (by (repeat (first | with_reducible exact AtL.head | apply AtL.tail))) (by kernel_rfl) (by kernel_rfl) (by kernel_rfl) (by exact fun _ _ _ _ h => h) rfl ?_
              go_step
              (refine takeV 7 (.int _ (((k + 1 : Nat) : Int))) (by (repeat (first | with_reducible exact AtL.head | apply AtL.tail))) (by kernel_rfl) (by kernel_rfl) (by kernel_rfl) (by exact fun _ _ _ _ h => h) (V.as (V.addI rfl rfl (by omega)) (by omega)) rfl ?_)
              go_step
              (refine takeV 8 _ (by (repeat (first | with_reducible exact AtL.head | apply AtL.tail))) (by kernel_rfl) (by kernel_rfl) (by kernel_rfl) (by exact fun _ _ _ _ h => h) (V.indexSl Try.underlying49 isz48 rfl rfl (by (repeat (first | exact IsN.auto | with_reducible apply IsN.add | with_reducible apply IsN.sub | with_reducible apply IsN.mul | with_reducible apply IsN.div | with_reducible apply IsN.mod | with_reducible apply IsN.min | with_reducible apply IsN.max | (with_reducible show (_ : Nat) ≤ _; omega) | exact IsN.toNat (by omega)))) (by omega) rfl (by first | with_reducible exact Nat.zero_add _ | with_reducible exact Nat.add_zero _ | exact rfl)) rfl ?_)
              go_step
              apply takeS 9 (by (repeat (first | with_reducible exact AtL.head | apply AtL.tail))) (by kernel_rfl) (by kernel_rfl) (by kernel_rfl) (by exact fun _ _ _ _ h => h) [14, 15, 16, 17] (by kernel_rfl) (hS.sub (by (repeat (first | exact Sub.nil | with_reducible exact Sub.refl | (apply Sub.cons; (case p => (repeat (first | with_reducible exact Pull.head | apply Pull.tail)))) | apply Sub.skip))))
              case hfr => intro w hS; ((refine wpl (by kernel_rfl) ?_; apply wp_loadE hS 48 _ rfl _ _ rfl 2 (row_of rfl) _ _ _ _ _; (case hp => (repeat (first | with_reducible exact Pull.head | apply Pull.tail))); (case inst => infer_instance); (case he => with_reducible assumption); (case hq => exact rfl); (case hj => omega); refine put_move ?_; go_step)); refine wpList_nil ?_; exact ⟨rfl, rfl⟩
              case hd => rfl
              refine takeM 10 _ (by (repeat (first | with_reducible exact AtL.head | apply AtL.tail))) (by kernel_rfl) (by kernel_rfl) (by kernel_rfl) (by exact fun _ _ _ _ h => h) rfl ?_
              go_step
              refine takeM 11 _ (by (repeat (first | with_reducible exact AtL.head | apply AtL.tail))) (by kernel_rfl) (by kernel_rfl) (by kernel_rfl) (by exact fun _ _ _ _ h => h) rfl ?_
              go_step
              (refine takeV 12 _ (by (repeat (first | with_reducible exact AtL.head | apply AtL.tail))) (by kernel_rfl) (by kernel_rfl) (by kernel_rfl) (by exact fun _ _ _ _ h => h) (V.indexSl Try.underlying49 isz48 rfl rfl (by (repeat (first | exact IsN.auto | with_reducible apply IsN.add | with_reducible apply IsN.sub | with_reducible apply IsN.mul | with_reducible apply IsN.div | with_reducible apply IsN.mod | with_reducible apply IsN.min | with_reducible apply IsN.max | (with_reducible show (_ : Nat) ≤ _; omega) | exact IsN.toNat (by omega)))) (by omega) rfl (by first | with_reducible exact Nat.zero_add _ | with_reducible exact Nat.add_zero _ | exact rfl)) rfl ?_)
              go_step
              apply takeS 13 (by (repeat (first | with_reducible exact AtL.head | apply AtL.tail))) (by kernel_rfl) (by kernel_rfl) (by kernel_rfl) (by exact fun _ _ _ _ h => h) [14, 15, 16, 17] (by kernel_rfl) (hS.sub (by (repeat (first | exact Sub.nil | with_reducible exact Sub.refl | (apply Sub.cons; (case p => (repeat (first | with_reducible exact Pull.head | apply Pull.tail)))) | apply Sub.skip))))
              case hfr => intro w hS; ((refine wpl (by kernel_rfl) ?_; apply wp_loadE hS 48 _ rfl _ _ rfl 2 (row_of rfl) _ _ _ _ _; (case hp => (repeat (first | with_reducible exact Pull.head | apply Pull.tail))); (case inst => infer_instance); (case he => with_reducible assumption); (case hq => exact rfl); (case hj => omega); refine put_move ?_; go_step)); refine wpList_nil ?_; exact ⟨rfl, rfl⟩
              case hd => rfl
              (refine takeV 14 _ (by (repeat (first | with_reducible exact AtL.head | apply AtL.tail))) (by kernel_rfl) (by kernel_rfl) (by kernel_rfl) (by exact fun _ _ _ _ h => h) (V.indexSl Try.underlying49 isz48 rfl rfl (by (repeat (first | exact IsN.auto | with_reducible apply IsN.add | with_reducible apply IsN.sub | with_reducible apply IsN.mul | with_reducible apply IsN.div | with_reducible apply IsN.mod | with_reducible apply IsN.min | with_reducible apply IsN.max | (with_reducible show (_ : Nat) ≤ _; omega) | exact IsN.toNat (by omega)))) (by omega) rfl (by first | with_reducible exact Nat.zero_add _ | with_reducible exact Nat.add_zero _ | exact rfl)) rfl ?_)
              go_step
              refine branch1 15 (by (repeat (first | with_reducible exact AtL.head | apply AtL.tail))) rfl (by kernel_rfl) ?_
              (apply wp_storeE hS 48 _ _ rfl _ _ rfl 2 (row_of rfl) _ _ _ _ _; (case hp => (repeat (first | with_reducible exact Pull.head | apply Pull.tail))); (case inst => infer_instance); (case he => with_reducible assumption); (case hone => with_reducible assumption); (case hq => exact rfl); (case hj => omega); (case hy => exact rfl); (case hd => exact rfl); clear hS; intro w hS)
              refine ⟨fun h => absurd (by decide) h, ?_⟩
              (refine takeV 16 _ (by (repeat (first | with_reducible exact AtL.head | apply AtL.tail))) (by kernel_rfl) (by kernel_rfl) (by kernel_rfl) (by exact fun _ _ _ _ h => h) (V.indexSl Try.underlying49 isz48 rfl rfl (by (repeat (first | exact IsN.auto | with_reducible apply IsN.add | with_reducible apply IsN.sub | with_reducible apply IsN.mul | with_reducible apply IsN.div | with_reducible apply IsN.mod | with_reducible apply IsN.min | with_reducible apply IsN.max | (with_reducible show (_ : Nat) ≤ _; omega) | exact IsN.toNat (by omega)))) (by omega) rfl (by first | with_reducible exact Nat.zero_add _ | with_reducible exact Nat.add_zero _ | exact rfl)) rfl ?_)
              go_step
              refine branch1 17 (by (repeat (first | with_reducible exact AtL.head | apply AtL.tail))) rfl (by kernel_rfl) ?_
              (apply wp_storeE hS 48 _ _ rfl _ _ rfl 2 (row_of rfl) _ _ _ _ _; (case hp => (repeat (first | with_reducible exact Pull.head | apply Pull.tail))); (case inst => infer_instance); (case he => with_reducible assumption); (case hone => with_reducible assumption); (case hq => exact rfl); (case hj => omega); (case hy => exact rfl); (case hd => exact rfl); clear hS; intro w hS)
              refine ⟨fun h => absurd (by decide) h, ?_⟩
              refine drawn_done (by kernel_rfl) ?_ _
            repeat' (first
              | ((with_reducible show wpList _ _ _ (⟨some 60, .binOp .add _ _ _ _, _, _, _, _⟩ :: _) _ _); (refine wplV (.int _ (((k + 1 : Nat) : Int))) (V.as (V.addI rfl rfl (by omega)) (by omega)) rfl ?_; go_step))
              | ((with_reducible show wpList _ _ _ (⟨_, .move _, _, _, _, _⟩ :: _) _ _); (first | go_big_want | go_step); go_step)
              | ((with_reducible show wpList _ _ _ (⟨_, .assign _, _, _, _, _⟩ :: _) _ _); (first | go_big_want | go_step); go_step)
              | ((fail_if_success (with_reducible show wpList _ _ _ (_ :: _) _ _)); go_step))
            go_roundg (gk - 1)
            case measure => omega
            case rel => exact ⟨k + 1, swp Q k (k + 1), by omega, by omega, by go_num, HU.out.step (by omega) (by omega), HR.out.trans (swp_mid _ _ _ _ _ (by omega) (by omega) (by omega) (by omega) (by rw [HR.out.len]; omega)), hS⟩
          · obtain rfl : k = p := by omega
            repeat' (first
              | ((with_reducible show wpList _ _ _ (⟨some 57, .binOp .sub _ _ _ _, _, _, _, _⟩ :: _) _ _); (refine wplV (.int _ (((k : Nat) : Int))) (V.as (V.subI rfl rfl (by omega)) (by omega)) rfl ?_; go_step))
              | ((with_reducible show wpList _ _ _ (⟨_, .move _, _, _, _, _⟩ :: _) _ _); (first | go_big_want | go_step); go_step)
              | ((with_reducible show wpList _ _ _ (⟨some 58, .binOp .lss _ _ _ _, _, _, _, _⟩ :: _) _ _); (refine wplV _ (V.lss rfl rfl) (by kernel_rfl) ?_; go_step))
              | ((fail_if_success (with_reducible show wpList _ _ _ (_ :: _) _ _)); go_step))
            refine bodyPost_ret (results_none rfl _ _ _) rfl ?_
            refine ⟨rfl, Q, HU.out.asc HA2.out hak (by omega) (fun h => HLO.out k (by omega) (by omega)) (fun h => HHI.out (k + 1) (Nat.le_refl _) h), HR.out, hS⟩
  · by_cases h2 : b - m = 1
    · obtain rfl : b = m + 1 := by omega
      go_enter Try.func33, Try.ntmps33
      repeat' (first
        | ((with_reducible show wpList _ _ _ (⟨some 27, .binOp .sub _ _ _ _, _, _, _, _⟩ :: _) _ _); (refine wplV (.int _ (((m - a : Nat) : Int))) (V.as (V.subI rfl rfl (by omega)) (by omega)) rfl ?_; go_step))
        | ((with_reducible show wpList _ _ _ (⟨_, .move _, _, _, _, _⟩ :: _) _ _); (first | go_big_want | go_step); go_step)
        | ((with_reducible show wpList _ _ _ (⟨some 28, .binOp .eql 3 _ _ _, _, _, _, _⟩ :: _) _ _); (refine wplV _ (V.eql rfl rfl) (by kernel_rfl) ?_; go_step))
        | ((fail_if_success (with_reducible show wpList _ _ _ (_ :: _) _ _)); go_step))
      repeat' (first
        | ((with_reducible show wpList _ _ _ (⟨some 79, .binOp .sub _ _ _ _, _, _, _, _⟩ :: _) _ _); (refine wplV (.int _ (1)) (V.as (V.subI rfl rfl (by omega)) (by omega)) rfl ?_; go_step))
        | ((with_reducible show wpList _ _ _ (⟨_, .move _, _, _, _, _⟩ :: _) _ _); (first | go_big_want | go_step); go_step)
        | ((with_reducible show wpList _ _ _ (⟨_, .assign _, _, _, _, _⟩ :: _) _ _); (first | go_big_want | go_step); go_step)
        | ((with_reducible show wpList _ _ _ (⟨some 80, .binOp .eql 3 _ _ _, _, _, _, _⟩ :: _) _ _); (refine wplV _ (V.eql rfl rfl) (by kernel_rfl) ?_; go_step))
        | ((fail_if_success (with_reducible show wpList _ _ _ (_ :: _) _ _)); go_step))
      go_loopg [14, 15] (m - a) (fun gk iv jv w => ∃ (i j : Nat), gk + i = j ∧ a ≤ i ∧ j ≤ m ∧ iv = .int .i64 i ∧ jv = .int .i64 j ∧ (∀ x, a ≤ x → x < i → wk P x ≤ wk P m) ∧ (∀ x, j ≤ x → x < m → wk P m ≤ wk P x) ∧ St W w (pks g n c P :: rs'))
      case atStart => exact ⟨a, m, by omega, by omega, by omega, rfl, rfl, fun x h1 h2 => by omega, fun x h1 h2 => by omega, hS⟩
      case round =>
        clear hS
        obtain ⟨i, j, hk, hi, hj, rfl, rfl, hlo, hhi, hS⟩ := hrel
        have HLO := hid hlo
        have HHI := hid hhi
        clear hlo hhi
        by_cases hlt : i < j
        · obtain ⟨h, hh⟩ : ∃ h, h = (i + j) / 2 := ⟨_, rfl⟩
          obtain ⟨v, hv⟩ : ∃ v, cmpv (elt P m).w (elt P h).w = v := ⟨_, rfl⟩
          have hv2 := cmpv_lt (elt P m).w (elt P h).w
          rw [hv] at hv2
          have HV := hid hv
          have HV2 := hid hv2
          clear hv hv2
          repeat' (first
            | ((with_reducible show wpList _ _ _ (⟨some 88, .binOp .add _ _ _ _, _, _, _, _⟩ :: _) _ _); (refine wplV (.int _ (((i + j : Nat) : Int))) (V.as (V.addI rfl rfl (by omega)) (by omega)) rfl ?_; go_step))
            | ((with_reducible show wpList _ _ _ (⟨some 90, .binOp .shr _ _ _ _, _, _, _, _⟩ :: _) _ _); (refine wplV (.int _ (((h : Nat) : Int))) (V.as (V.shr rfl rfl (by (repeat (first | exact IsN.auto | with_reducible apply IsN.add | with_reducible apply IsN.sub | with_reducible apply IsN.mul | with_reducible apply IsN.div | with_reducible apply IsN.mod | with_reducible apply IsN.min | with_reducible apply IsN.max | (with_reducible show (_ : Nat) ≤ _; omega) | exact IsN.toNat (by omega)))) (by omega) rfl) (by omega)) rfl ?_; go_step))
            | ((with_reducible show wpList _ _ _ (⟨_, .move _, _, _, _, _⟩ :: _) _ _); (first | go_big_want | go_step); go_step)
            | ((with_reducible show wpList _ _ _ (⟨_, .assign _, _, _, _, _⟩ :: _) _ _); (first | go_big_want | go_step); go_step)
            | ((with_reducible show wpList _ _ _ (⟨some 85, .binOp .lss _ _ _ _, _, _, _, _⟩ :: _) _ _); (refine wplV _ (V.lss rfl rfl) (by kernel_rfl) ?_; go_step))
            | ((with_reducible show wpList _ _ _ (⟨some 89, .convert 3 64 _, _, _, _, _⟩ :: _) _ _); (refine wplV _ (V.convI (by rw [Try.underlying3]; rfl) Try.underlying64 rfl (IntWalk.u64_in _ (by omega))) (by kernel_rfl) ?_; go_step))
            | ((with_reducible show wpList _ _ _ (⟨some 91, .convert 64 3 _, _, _, _, _⟩ :: _) _ _); (refine wplV _ (V.convI (by rw [Try.underlying64]; rfl) Try.underlying3 rfl (IntWalk.i64_in _ (by omega))) (by kernel_rfl) ?_; go_step))
            | ((fail_if_success (with_reducible show wpList _ _ _ (_ :: _) _ _)); go_step))
          refine drawn_lit [9] (fun w => St W w (pks g n c P :: rs')) (by kernel_rfl) ?_
          replace hS := hS.drew
          focus
            refine takeM 0 _ (by (repeat (first | with_reducible exact AtL.head | apply AtL.tail))) (by kernel_rfl) (by kernel_rfl) (by kernel_rfl) (by exact fun _ _ _ _ h => h) rfl ?_
            go_step
            refine takeM 1 _ (by (repeat (first | with_reducible exact AtL.head | apply AtL.tail))) (by kernel_rfl) (by kernel_rfl) (by kernel_rfl) (by exact fun _ _ _ _ h => h) rfl ?_
            go_step
            refine takeM 2 _ (by (repeat (first | with_reducible exact AtL.head | apply AtL.tail))) (by kernel_rfl) (by kernel_rfl) (by kernel_rfl) (by exact fun _ _ _ _ h => h) rfl ?_
            go_step
            (refine takeV 3 _ (by (repeat (first | with_reducible exact AtL.head | apply AtL.tail))) (by kernel_rfl) (by kernel_rfl) (by kernel_rfl) (by exact fun _ _ _ _ h => h) (V.indexSl Try.underlying49 isz48 rfl rfl (by (repeat (first | exact IsN.auto | with_reducible apply IsN.add | with_reducible apply IsN.sub | with_reducible apply IsN.mul | with_reducible apply IsN.div | with_reducible apply IsN.mod | with_reducible apply IsN.min | with_reducible apply IsN.max | (with_reducible show (_ : Nat) ≤ _; omega) | exact IsN.toNat (by omega)))) (by omega) rfl (by first | with_reducible exact Nat.zero_add _ | with_reducible exact Nat.add_zero _ | exact rfl)) rfl ?_)
            go_step
            apply takeS 4 (by (repeat (first | with_reducible exact AtL.head | apply AtL.tail))) (by kernel_rfl) (by kernel_rfl) (by kernel_rfl) (by exact fun _ _ _ _ h => h) [9, 10, 11] (by kernel_rfl) (hS.sub (by (repeat (first | exact Sub.nil | with_reducible exact Sub.refl | (apply Sub.cons; (case p => (repeat (first | with_reducible exact Pull.head | apply Pull.tail)))) | apply Sub.skip))))
            case hfr => intro w hS; ((refine wpl (by kernel_rfl) ?_; apply wp_loadE hS 48 _ rfl _ _ rfl 2 (row_of rfl) _ _ _ _ _; (case hp => (repeat (first | with_reducible exact Pull.head | apply Pull.tail))); (case inst => infer_instance); (case he => with_reducible assumption); (case hq => exact rfl); (case hj => omega); refine put_move ?_; go_step)); refine wpList_nil ?_; exact ⟨rfl, rfl⟩
            case hd => rfl
            refine takeM 5 _ (by (repeat (first | with_reducible exact AtL.head | apply AtL.tail))) (by kernel_rfl) (by kernel_rfl) (by kernel_rfl) (by exact fun _ _ _ _ h => h) rfl ?_
            go_step
            refine takeM 6 _ (by (repeat (first | with_reducible exact AtL.head | apply AtL.tail))) (by kernel_rfl) (by kernel_rfl) (by kernel_rfl) (by exact fun _ _ _ _ h => h) rfl ?_
            go_step
            (refine takeV 7 _ (by (repeat (first | with_reducible exact AtL.head | apply AtL.tail))) (by kernel_rfl) (by kernel_rfl) (by kernel_rfl) (by exact fun _ _ _ _ h => h) (V.indexSl Try.underlying49 isz48 rfl rfl (by (repeat (first | exact IsN.auto | with_reducible apply IsN.add | with_reducible apply IsN.sub | with_reducible apply IsN.mul | with_reducible apply IsN.div | with_reducible apply IsN.mod | with_reducible apply IsN.min | with_reducible apply IsN.max | (with_reducible show (_ : Nat) ≤ _; omega) | exact IsN.toNat (by omega)))) (by omega) rfl (by first | with_reducible exact Nat.zero_add _ | with_reducible exact Nat.add_zero _ | exact rfl)) rfl ?_)
            go_step
            apply takeS 8 (by (repeat (first | with_reducible exact AtL.head | apply AtL.tail))) (by kernel_rfl) (by kernel_rfl) (by kernel_rfl) (by exact fun _ _ _ _ h => h) [9, 10, 11] (by kernel_rfl) (hS.sub (by (repeat (first | exact Sub.nil | with_reducible exact Sub.refl | (apply Sub.cons; (case p => (repeat (first | with_reducible exact Pull.head | apply Pull.tail)))) | apply Sub.skip))))
            case hfr => intro w hS; ((refine wpl (by kernel_rfl) ?_; apply wp_loadE hS 48 _ rfl _ _ rfl 2 (row_of rfl) _ _ _ _ _; (case hp => (repeat (first | with_reducible exact Pull.head | apply Pull.tail))); (case inst => infer_instance); (case he => with_reducible assumption); (case hq => exact rfl); (case hj => omega); refine put_move ?_; go_step)); refine wpList_nil ?_; exact ⟨rfl, rfl⟩
            case hd => rfl
            refine branch1 9 (by (repeat (first | with_reducible exact AtL.head | apply AtL.tail))) rfl (by kernel_rfl) ?_
            refine wp_callV (f := 20) rfl rfl Try.call20 (byWeight_any _ (elt P m) (elt P h)) ?_; rintro e w ⟨rfl, hE⟩; replace hS := hS.ext hE; clear hE; rw [HV.out]; refine ⟨_, rfl, ?_⟩
            refine ⟨fun h => absurd (by decide) h, ?_⟩
            refine drawn_move ?_
            go_step
            (refine takeV 10 _ (by (repeat (first | with_reducible exact AtL.head | apply AtL.tail))) (by kernel_rfl) (by kernel_rfl) (by kernel_rfl) (by exact fun _ _ _ _ h => h) (V.lss rfl rfl) rfl ?_)
            go_step
            (refine takeV 11 _ (by (repeat (first | with_reducible exact AtL.head | apply AtL.tail))) (by kernel_rfl) (by kernel_rfl) (by kernel_rfl) (by exact fun _ _ _ _ h => h) (V.notD rfl) rfl ?_)
            go_step
            refine drawn_done (by kernel_rfl) ?_ _
          by_cases hc : v < 0
          · skip
            repeat' (first
              | ((with_reducible show wpList _ _ _ (⟨_, .move _, _, _, _, _⟩ :: _) _ _); (first | go_big_want | go_step); go_step)
              | ((with_reducible show wpList _ _ _ (⟨_, .assign _, _, _, _, _⟩ :: _) _ _); (first | go_big_want | go_step); go_step)
              | ((fail_if_success (with_reducible show wpList _ _ _ (_ :: _) _ _)); go_step))
            go_roundg (h - i)
            case measure => omega
            case rel =>
              refine ⟨i, h, by omega, by omega, by omega, rfl, by go_num, HLO.out, fun x k1 k2 => ?_, hS⟩
              have := HA1.out h x (by omega) k1 (by omega)
              have := HV2.out.1 hc
              show (elt P m).w ≤ (elt P x).w
              omega
          · skip
            repeat' (first
              | ((with_reducible show wpList _ _ _ (⟨some 105, .binOp .add _ _ _ _, _, _, _, _⟩ :: _) _ _); (refine wplV (.int _ (((h + 1 : Nat) : Int))) (V.as (V.addI rfl rfl (by omega)) (by omega)) rfl ?_; go_step))
              | ((with_reducible show wpList _ _ _ (⟨_, .move _, _, _, _, _⟩ :: _) _ _); (first | go_big_want | go_step); go_step)
              | ((with_reducible show wpList _ _ _ (⟨_, .assign _, _, _, _, _⟩ :: _) _ _); (first | go_big_want | go_step); go_step)
              | ((fail_if_success (with_reducible show wpList _ _ _ (_ :: _) _ _)); go_step))
            go_roundg (j - (h + 1))
            case measure => omega
            case rel =>
              refine ⟨h + 1, j, by omega, by omega, by omega, by go_num, rfl, fun x k1 k2 => ?_, HHI.out, hS⟩
              have := HA1.out x h k1 (by omega) (by omega)
              have := HV2.out
              show (elt P x).w ≤ (elt P m).w
              omega
        · obtain rfl : i = j := by omega
          repeat' (first
            | ((with_reducible show wpList _ _ _ (⟨_, .move _, _, _, _, _⟩ :: _) _ _); (first | go_big_want | go_step); go_step)
            | ((with_reducible show wpList _ _ _ (⟨_, .assign _, _, _, _, _⟩ :: _) _ _); (first | go_big_want | go_step); go_step)
            | ((with_reducible show wpList _ _ _ (⟨some 85, .binOp .lss _ _ _ _, _, _, _, _⟩ :: _) _ _); (refine wplV _ (V.lss rfl rfl) (by kernel_rfl) ?_; go_step))
            | ((fail_if_success (with_reducible show wpList _ _ _ (_ :: _) _ _)); go_step))
          repeat' (first
            | ((fail_if_success (with_reducible show wpList _ _ _ (_ :: _) _ _)); go_step))
          go_loopg [17] (m - i) (fun gk kv w => ∃ (k : Nat) (Q : List PkV), gk + i = k ∧ k ≤ m ∧ kv = .int .i64 k ∧ Dn m k P Q ∧ Rg a (m + 1) P Q ∧ St W w (pks g n c Q :: rs'))
          case atStart => exact ⟨m, P, by omega, by omega, rfl, Dn.refl m P, Rg.refl a _ P, hS⟩
          case round =>
            clear hS
            obtain ⟨k, Q, hk2, hkm, rfl, hU, hR, hS⟩ := hrel
            have HU := hid hU
            have HR := hid hR
            clear hU hR
            by_cases hlt2 : i < k
            · obtain ⟨q, rfl⟩ : ∃ q, k = q + 1 := ⟨k - 1, by omega⟩
              repeat' (first
                | ((with_reducible show wpList _ _ _ (⟨_, .move _, _, _, _, _⟩ :: _) _ _); (first | go_big_want | go_step); go_step)
                | ((with_reducible show wpList _ _ _ (⟨some 110, .binOp .gtr _ _ _ _, _, _, _, _⟩ :: _) _ _); (refine wplV _ (V.gtr rfl rfl) (by kernel_rfl) ?_; go_step))
                | ((fail_if_success (with_reducible show wpList _ _ _ (_ :: _) _ _)); go_step))
              refine drawn_lit [15, 17] (fun w => St W w (pks g n c Q :: rs')) (by kernel_rfl) ?_
              replace hS := hS.drew
              focus
                refine takeM 0 _ (by (repeat (first | with_reducible exact AtL.head | apply AtL.tail))) (by kernel_rfl) (by kernel_rfl) (by kernel_rfl) (by exact fun _ _ _ _ h => h) rfl ?_
                go_step
                refine takeM 1 _ (by (repeat (first | with_reducible exact AtL.head | apply AtL.tail))) (by kernel_rfl) (by kernel_rfl) (by kernel_rfl) (by exact fun _ _ _ _ h => h) rfl ?_
                go_step
                refine takeM 2 _ (by (repeat (first | with_reducible exact AtL.head | apply AtL.tail))) (by kernel_rfl) (by kernel_rfl) (by kernel_rfl) (by exact fun _ _ _ _ h => h) rfl ?_
                go_step
                refine takeM 3 _ (by (repeat (first | with_reducible exact AtL.head | apply AtL.tail))) (by kernel_rfl) (by kernel_rfl) (by kernel_rfl) (by exact fun _ _ _ _ h => h) rfl ?_
                go_step
                (refine takeV 4 (.int _ (((q : Nat) : Int))) (by (repeat (first | with_reducible exact AtL.head | apply AtL.tail))) (by kernel_rfl) (by kernel_rfl) (by kernel_rfl) (by exact fun _ _ _ _ h => h) (V.as (V.subI rfl rfl (by omega)) (by omega)) rfl ?_)
                go_step
                refine takeM 5 _ (by (repeat (first | with_reducible exact AtL.head | apply AtL.tail))) (by kernel_rfl) (by kernel_rfl) (by kernel_rfl) (by exact fun _ _ _ _ h => h) rfl ?_
                go_step
                refine takeM 6 _ (by (repeat (first | with_reducible exact AtL.head | apply AtL.tail))) (by kernel_rfl) (by kernel_rfl) (by kernel_rfl) (by exact fun _ _ _ _ h => h) rfl ?_
                go_step
                (refine takeV 7 (.int _ (((q : Nat) : Int))) (by (repeat (first | with_reducible exact AtL.head | apply AtL.tail))) (by kernel_rfl) (by kernel_rfl) (by kernel_rfl) (by exact fun _ _ _ _ h => h) (V.as (V.subI rfl rfl (by omega)) (by omega)) rfl ?_)
                go_step
                (refine takeV 8 _ (by (repeat (first | with_reducible exact AtL.head | apply AtL.tail))) (by kernel_rfl) (by kernel_rfl) (by kernel_rfl) (by exact fun _ _ _ _ h => h) (V.indexSl Try.underlying49 isz48 rfl rfl (by (repeat (first | exact IsN.auto | with_reducible apply IsN.add | with_reducible apply IsN.sub | with_reducible apply IsN.mul | with_reducible apply IsN.div | with_reducible apply IsN.mod | with_reducible apply IsN.min | with_reducible apply IsN.max | (with_reducible show (_ : Nat) ≤ _; omega) | exact IsN.toNat (by omega)))) (by omega) rfl (by first | with_reducible exact Nat.zero_add _ | with_reducible exact Nat.add_zero _ | exact rfl)) rfl ?_)
                go_step
                apply takeS 9 (by (repeat (first | with_reducible exact AtL.head | apply AtL.tail))) (by kernel_rfl) (by kernel_rfl) (by kernel_rfl) (by exact fun _ _ _ _ h => h) [14, 15, 16, 17] (by kernel_rfl) (hS.sub (by (repeat (first | exact Sub.nil | with_reducible exact Sub.refl | (apply Sub.cons; (case p => (repeat (first | with_reducible exact Pull.head | apply Pull.tail)))) | apply Sub.skip))))
                case hfr => intro w hS; ((refine wpl (by kernel_rfl) ?_; apply wp_loadE hS 48 _ rfl _ _ rfl 2 (row_of rfl) _ _ _ _ _; (case hp => (repeat (first | with_reducible exact Pull.head | apply Pull.tail))); (case inst => infer_instance); (case he => with_reducible assumption); (case hq => exact rfl); (case hj => omega); refine put_move ?_; go_step)); refine wpList_nil ?_; exact ⟨rfl, rfl⟩
                case hd => rfl
                refine takeM 10 _ (by (repeat (first | with_reducible exact AtL.head | apply AtL.tail))) (by kernel_rfl) (by kernel_rfl) (by kernel_rfl) (by exact fun _ _ _ _ h => h) rfl ?_
                go_step
                refine takeM 11 _ (by (repeat (first | with_reducible exact AtL.head | apply AtL.tail))) (by kernel_rfl) (by kernel_rfl) (by kernel_rfl) (by exact fun _ _ _ _ h => h) rfl ?_
                go_step
                (refine takeV 12 _ (by (repeat (first | with_reducible exact AtL.head | apply AtL.tail))) (by kernel_rfl) (by kernel_rfl) (by kernel_rfl) (by exact fun _ _ _ _ h => h) (V.indexSl Try.underlying49 isz48 rfl rfl (by (repeat (first | exact IsN.auto | with_reducible apply IsN.add | with_reducible apply IsN.sub | with_reducible apply IsN.mul | with_reducible apply IsN.div | with_reducible apply IsN.mod | with_reducible apply IsN.min | with_reducible apply IsN.max | (with_reducible show (_ : Nat) ≤ _; omega) | exact IsN.toNat (by omega)))) (by omega) rfl (by first | with_reducible exact Nat.zero_add _ | with_reducible exact Nat.add_zero _ | exact rfl)) rfl ?_)
                go_step
                apply takeS 13 (by (repeat (first | with_reducible exact AtL.head | apply AtL.tail))) (by kernel_rfl) (by kernel_rfl) (by kernel_rfl) (by exact fun _ _ _ _ h => h) [14, 15, 16, 17] (by kernel_rfl) (hS.sub (by (repeat (first | exact Sub.nil | with_reducible exact Sub.refl | (apply Sub.cons; (case p => (repeat (first | with_reducible exact Pull.head | apply Pull.tail)))) | apply Sub.skip))))
                case hfr => intro w hS; ((refine wpl (by kernel_rfl) ?_; apply wp_loadE hS 48 _ rfl _ _ rfl 2 (row_of rfl) _ _ _ _ _; (case hp => (repeat (first | with_reducible exact Pull.head | apply Pull.tail))); (case inst => infer_instance); (case he => with_reducible assumption); (case hq => exact rfl); (case hj => omega); refine put_move ?_; go_step)); refine wpList_nil ?_; exact ⟨rfl, rfl⟩
                case hd => rfl
                (refine takeV 14 _ (by (repeat (first | with_reducible exact AtL.head | apply AtL.tail))) (by kernel_rfl) (by kernel_rfl) (by kernel_rfl) (by exact fun _ _ _ _ h => h) (V.indexSl Try.underlying49 isz48 rfl rfl (by (repeat (first | exact IsN.auto | with_reducible apply IsN.add | with_reducible apply IsN.sub | with_reducible apply IsN.mul | with_reducible apply IsN.div | with_reducible apply IsN.mod | with_reducible apply IsN.min | with_reducible apply IsN.max | (with_reducible show (_ : Nat) ≤ _; omega) | exact IsN.toNat (by omega)))) (by omega) rfl (by first | with_reducible exact Nat.zero_add _ | with_reducible exact Nat.add_zero _ | exact rfl)) rfl ?_)
                go_step
                refine branch1 15 (by (repeat (first | with_reducible exact AtL.head | apply AtL.tail))) rfl (by kernel_rfl) ?_
                (apply wp_storeE hS 48 _ _ rfl _ _ rfl 2 (row_of rfl) _ _ _ _ _; (case hp => (repeat (first | with_reducible exact Pull.head | apply Pull.tail))); (case inst => infer_instance); (case he => with_reducible assumption); (case hone => with_reducible assumption); (case hq => exact rfl); (case hj => omega); (case hy => exact rfl); (case hd => exact rfl); clear hS; intro w hS)
                refine ⟨fun h => absurd (by decide) h, ?_⟩
                (refine takeV 16 _ (by (repeat (first | with_reducible exact AtL.head | apply AtL.tail))) (by kernel_rfl) (by kernel_rfl) (by kernel_rfl) (by exact fun _ _ _ _ h => h) (V.indexSl Try.underlying49 isz48 rfl rfl (by (repeat (first | exact IsN.auto | with_reducible apply IsN.add | with_reducible apply IsN.sub | with_reducible apply IsN.mul | with_reducible apply IsN.div | with_reducible apply IsN.mod | with_reducible apply IsN.min | with_reducible apply IsN.max | (with_reducible show (_ : Nat) ≤ _; omega) | exact IsN.toNat (by omega)))) (by omega) rfl (by first | with_reducible exact Nat.zero_add _ | with_reducible exact Nat.add_zero _ | exact rfl)) rfl ?_)
                go_step
                refine branch1 17 (by (repeat (first | with_reducible exact AtL.head | apply AtL.tail))) rfl (by kernel_rfl) ?_
                (apply wp_storeE hS 48 _ _ rfl _ _ rfl 2 (row_of rfl) _ _ _ _ _; (case hp => (repeat (first | with_reducible exact Pull.head | apply Pull.tail))); (case inst => infer_instance); (case he => with_reducible assumption); (case hone => with_reducible assumption); (case hq => exact rfl); (case hj => omega); (case hy => exact rfl); (case hd => exact rfl); clear hS; intro w hS)
                refine ⟨fun h => absurd (by decide) h, ?_⟩
                refine drawn_done (by kernel_rfl) ?_ _
              repeat' (first
                | ((with_reducible show wpList _ _ _ (⟨some 112, .binOp .sub _ _ _ _, _, _, _, _⟩ :: _) _ _); (refine wplV (.int _ (((q : Nat) : Int))) (V.as (V.subI rfl rfl (by omega)) (by omega)) rfl ?_; go_step))
                | ((with_reducible show wpList _ _ _ (⟨_, .move _, _, _, _, _⟩ :: _) _ _); (first | go_big_want | go_step); go_step)
                | ((with_reducible show wpList _ _ _ (⟨_, .assign _, _, _, _, _⟩ :: _) _ _); (first | go_big_want | go_step); go_step)
                | ((fail_if_success (with_reducible show wpList _ _ _ (_ :: _) _ _)); go_step))
              go_roundg (gk - 1)
              case measure => omega
              case rel => exact ⟨q, swp Q (q + 1) q, by omega, by omega, by go_num, HU.out.step (by omega) (by omega) (by omega), HR.out.trans (swp_mid _ _ _ _ _ (by omega) (by omega) (by omega) (by omega) (by rw [HR.out.len]; omega)), hS⟩
            · obtain rfl : k = i := by omega
              repeat' (first
                | ((with_reducible show wpList _ _ _ (⟨_, .move _, _, _, _, _⟩ :: _) _ _); (first | go_big_want | go_step); go_step)
                | ((with_reducible show wpList _ _ _ (⟨some 110, .binOp .gtr _ _ _ _, _, _, _, _⟩ :: _) _ _); (refine wplV _ (V.gtr rfl rfl) (by kernel_rfl) ?_; go_step))
                | ((fail_if_success (with_reducible show wpList _ _ _ (_ :: _) _ _)); go_step))
              refine bodyPost_ret (results_none rfl _ _ _) rfl ?_
              refine ⟨rfl, Q, HU.out.asc HA1.out hi (by omega) (fun h => HLO.out (k - 1) (by omega) (by omega)) (fun h => HHI.out k (Nat.le_refl _) h), HR.out, hS⟩
    · obtain ⟨mid, hmid⟩ : ∃ mid, mid = (a + b) / 2 := ⟨_, rfl⟩
      obtain ⟨T, hT⟩ : ∃ T, T = mid + m := ⟨_, rfl⟩
      obtain ⟨s0, hs0⟩ : ∃ s0, s0 = if mid < m then T - b else a := ⟨_, rfl⟩
      obtain ⟨r0, hr0⟩ : ∃ r0, r0 = if mid < m then mid else m := ⟨_, rfl⟩
      have hs0a : mid < m → s0 = T - b := fun h => by rw [hs0, if_pos h]
      have hs0b : ¬ mid < m → s0 = a := fun h => by rw [hs0, if_neg h]
      have hr0a : mid < m → r0 = mid := fun h => by rw [hr0, if_pos h]
      have hr0b : ¬ mid < m → r0 = m := fun h => by rw [hr0, if_neg h]
      clear hs0 hr0
      have hF : s0 ≤ r0 ∧ a ≤ s0 ∧ r0 ≤ mid ∧ r0 ≤ m ∧ (∀ st, s0 ≤ st → st ≤ r0 → m ≤ T - st ∧ T - st ≤ b ∧ st ≤ T) := by
        by_cases hc : mid < m
        · have := hs0a hc; have := hr0a hc
          exact ⟨by omega, by omega, by omega, by omega, fun st k1 k2 => by omega⟩
        · have := hs0b hc; have := hr0b hc
          exact ⟨by omega, by omega, by omega, by omega, fun st k1 k2 => by omega⟩
      obtain ⟨f1, f2, f3, f4, f5⟩ := hF
      have F5 := hid f5
      clear f5
      have HS0a := hid hs0a
      have HS0b := hid hs0b
      have HR0a := hid hr0a
      have HR0b := hid hr0b
      clear hs0a hs0b hr0a hr0b
      obtain ⟨d1, hd1⟩ : ∃ d, d = m - a := ⟨_, rfl⟩
      obtain ⟨d2, hd2⟩ : ∃ d, d = b - m := ⟨_, rfl⟩
      go_enter Try.func33, Try.ntmps33
      repeat' (first
        | ((with_reducible show wpList _ _ _ (⟨some 27, .binOp .sub _ _ _ _, _, _, _, _⟩ :: _) _ _); (refine wplV (.int _ (((d1 : Nat) : Int))) (V.as (V.subI rfl rfl (by omega)) (by omega)) rfl ?_; go_step))
        | ((with_reducible show wpList _ _ _ (⟨_, .move _, _, _, _, _⟩ :: _) _ _); (first | go_big_want | go_step); go_step)
        | ((with_reducible show wpList _ _ _ (⟨some 28, .binOp .eql 3 _ _ _, _, _, _, _⟩ :: _) _ _); (refine wplV _ (V.eql rfl rfl) (by kernel_rfl) ?_; go_step))
        | ((fail_if_success (with_reducible show wpList _ _ _ (_ :: _) _ _)); go_step))
      repeat' (first
        | ((with_reducible show wpList _ _ _ (⟨some 79, .binOp .sub _ _ _ _, _, _, _, _⟩ :: _) _ _); (refine wplV (.int _ (((d2 : Nat) : Int))) (V.as (V.subI rfl rfl (by omega)) (by omega)) rfl ?_; go_step))
        | ((with_reducible show wpList _ _ _ (⟨_, .move _, _, _, _, _⟩ :: _) _ _); (first | go_big_want | go_step); go_step)
        | ((with_reducible show wpList _ _ _ (⟨some 80, .binOp .eql 3 _ _ _, _, _, _, _⟩ :: _) _ _); (refine wplV _ (V.eql rfl rfl) (by kernel_rfl) ?_; go_step))
        | ((fail_if_success (with_reducible show wpList _ _ _ (_ :: _) _ _)); go_step))
      have h1' : a + 2 ≤ m := by omega
      have h2' : m + 2 ≤ b := by omega
      clear h1 h2 hd1 hd2
      by_cases hc : mid < m
      · have e1 := HS0a.out hc
        have e2 := HR0a.out hc
        repeat' (first
          | ((with_reducible show wpList _ _ _ (⟨some 131, .binOp .add _ _ _ _, _, _, _, _⟩ :: _) _ _); (refine wplV (.int _ (((a + b : Nat) : Int))) (V.as (V.addI rfl rfl (by omega)) (by omega)) rfl ?_; go_step))
          | ((with_reducible show wpList _ _ _ (⟨some 133, .binOp .shr _ _ _ _, _, _, _, _⟩ :: _) _ _); (refine wplV (.int _ (((mid : Nat) : Int))) (V.as (V.shr rfl rfl (by (repeat (first | exact IsN.auto | with_reducible apply IsN.add | with_reducible apply IsN.sub | with_reducible apply IsN.mul | with_reducible apply IsN.div | with_reducible apply IsN.mod | with_reducible apply IsN.min | with_reducible apply IsN.max | (with_reducible show (_ : Nat) ≤ _; omega) | exact IsN.toNat (by omega)))) (by omega) rfl) (by omega)) rfl ?_; go_step))
          | ((with_reducible show wpList _ _ _ (⟨some 137, .binOp .add _ _ _ _, _, _, _, _⟩ :: _) _ _); (refine wplV (.int _ (((T : Nat) : Int))) (V.as (V.addI rfl rfl (by omega)) (by omega)) rfl ?_; go_step))
          | ((with_reducible show wpList _ _ _ (⟨some 143, .binOp .sub _ _ _ _, _, _, _, _⟩ :: _) _ _); (refine wplV (.int _ (((s0 : Nat) : Int))) (V.as (V.subI rfl rfl (by omega)) (by omega)) rfl ?_; go_step))
          | ((with_reducible show wpList _ _ _ (⟨_, .move _, _, _, _, _⟩ :: _) _ _); (first | go_big_want | go_step); go_step)
          | ((with_reducible show wpList _ _ _ (⟨_, .assign _, _, _, _, _⟩ :: _) _ _); (first | go_big_want | go_step); go_step)
          | ((with_reducible show wpList _ _ _ (⟨some 132, .convert 3 64 _, _, _, _, _⟩ :: _) _ _); (refine wplV _ (V.convI (by rw [Try.underlying3]; rfl) Try.underlying64 rfl (IntWalk.u64_in _ (by omega))) (by kernel_rfl) ?_; go_step))
          | ((with_reducible show wpList _ _ _ (⟨some 134, .convert 64 3 _, _, _, _, _⟩ :: _) _ _); (refine wplV _ (V.convI (by rw [Try.underlying64]; rfl) Try.underlying3 rfl (IntWalk.i64_in _ (by omega))) (by kernel_rfl) ?_; go_step))
          | ((with_reducible show wpList _ _ _ (⟨some 140, .binOp .gtr _ _ _ _, _, _, _, _⟩ :: _) _ _); (refine wplV _ (V.gtr rfl rfl) (by kernel_rfl) ?_; go_step))
          | ((fail_if_success (with_reducible show wpList _ _ _ (_ :: _) _ _)); go_step))
        repeat' (first
          | ((with_reducible show wpList _ _ _ (⟨some 148, .binOp .sub _ _ _ _, _, _, _, _⟩ :: _) _ _); (refine wplV (.int _ (((T - 1 : Nat) : Int))) (V.as (V.subI rfl rfl (by omega)) (by omega)) rfl ?_; go_step))
          | ((with_reducible show wpList _ _ _ (⟨_, .assign _, _, _, _, _⟩ :: _) _ _); (first | go_big_want | go_step); go_step)
          | ((fail_if_success (with_reducible show wpList _ _ _ (_ :: _) _ _)); go_step))
        go_loopg [20, 21] (r0 - s0) (fun gk iv jv w => ∃ (st r : Nat), gk + st = r ∧ s0 ≤ st ∧ r ≤ r0 ∧ iv = .int .i64 st ∧ jv = .int .i64 r ∧ (s0 < st → wk P (st - 1) ≤ wk P (T - st)) ∧ (r < r0 → wk P (T - 1 - r) ≤ wk P r) ∧ St W w (pks g n c P :: rs'))
        case atStart => exact ⟨s0, r0, by omega, by omega, by omega, by first | rfl | rw [e1], by first | rfl | rw [e2], fun h => by omega, fun h => by omega, hS⟩
        case round =>
          clear hS
          obtain ⟨st, r, hk, hst, hr, rfl, rfl, hlo, hhi, hS⟩ := hrel
          have HLO := hid hlo
          have HHI := hid hhi
          clear hlo hhi
          have f5 := F5.out st hst (by omega)
          by_cases hlt : st < r
          · obtain ⟨h, hh⟩ : ∃ h, h = (st + r) / 2 := ⟨_, rfl⟩
            obtain ⟨y, hy⟩ : ∃ y, y = T - 1 - h := ⟨_, rfl⟩
            have f6 := F5.out (h + 1) (by omega) (by omega)
            obtain ⟨v, hv⟩ : ∃ v, cmpv (elt P y).w (elt P h).w = v := ⟨_, rfl⟩
            have hv2 := cmpv_lt (elt P y).w (elt P h).w
            rw [hv] at hv2
            have HV := hid hv
            have HV2 := hid hv2
            clear hv hv2
            repeat' (first
              | ((with_reducible show wpList _ _ _ (⟨some 154, .binOp .add _ _ _ _, _, _, _, _⟩ :: _) _ _); (refine wplV (.int _ (((st + r : Nat) : Int))) (V.as (V.addI rfl rfl (by omega)) (by omega)) rfl ?_; go_step))
              | ((with_reducible show wpList _ _ _ (⟨some 156, .binOp .shr _ _ _ _, _, _, _, _⟩ :: _) _ _); (refine wplV (.int _ (((h : Nat) : Int))) (V.as (V.shr rfl rfl (by (repeat (first | exact IsN.auto | with_reducible apply IsN.add | with_reducible apply IsN.sub | with_reducible apply IsN.mul | with_reducible apply IsN.div | with_reducible apply IsN.mod | with_reducible apply IsN.min | with_reducible apply IsN.max | (with_reducible show (_ : Nat) ≤ _; omega) | exact IsN.toNat (by omega)))) (by omega) rfl) (by omega)) rfl ?_; go_step))
              | ((with_reducible show wpList _ _ _ (⟨_, .move _, _, _, _, _⟩ :: _) _ _); (first | go_big_want | go_step); go_step)
              | ((with_reducible show wpList _ _ _ (⟨_, .assign _, _, _, _, _⟩ :: _) _ _); (first | go_big_want | go_step); go_step)
              | ((with_reducible show wpList _ _ _ (⟨some 151, .binOp .lss _ _ _ _, _, _, _, _⟩ :: _) _ _); (refine wplV _ (V.lss rfl rfl) (by kernel_rfl) ?_; go_step))
              | ((with_reducible show wpList _ _ _ (⟨some 155, .convert 3 64 _, _, _, _, _⟩ :: _) _ _); (refine wplV _ (V.convI (by rw [Try.underlying3]; rfl) Try.underlying64 rfl (IntWalk.u64_in _ (by omega))) (by kernel_rfl) ?_; go_step))
              | ((with_reducible show wpList _ _ _ (⟨some 157, .convert 64 3 _, _, _, _, _⟩ :: _) _ _); (refine wplV _ (V.convI (by rw [Try.underlying64]; rfl) Try.underlying3 rfl (IntWalk.i64_in _ (by omega))) (by kernel_rfl) ?_; go_step))
              | ((fail_if_success (with_reducible show wpList _ _ _ (_ :: _) _ _)); go_step))
            refine drawn_lit [11] (fun w => St W w (pks g n c P :: rs')) (by kernel_rfl) ?_
            replace hS := hS.drew
            focus
              refine takeM 0 _ (by (repeat (first | with_reducible exact AtL.head | apply AtL.tail))) (by kernel_rfl) (by kernel_rfl) (by kernel_rfl) (by exact fun _ _ _ _ h => h) rfl ?_
              go_step
              refine takeM 1 _ (by (repeat (first | with_reducible exact AtL.head | apply AtL.tail))) (by kernel_rfl) (by kernel_rfl) (by kernel_rfl) (by exact fun _ _ _ _ h => h) rfl ?_
              go_step
              refine takeM 2 _ (by (repeat (first | with_reducible exact AtL.head | apply AtL.tail))) (by kernel_rfl) (by kernel_rfl) (by kernel_rfl) (by exact fun _ _ _ _ h => h) rfl ?_
              go_step
              refine takeM 3 _ (by (repeat (first | with_reducible exact AtL.head | apply AtL.tail))) (by kernel_rfl) (by kernel_rfl) (by kernel_rfl) (by exact fun _ _ _ _ h => h) rfl ?_
              go_step
              (refine takeV 4 (.int _ (((y : Nat) : Int))) (by (repeat (first | with_reducible exact AtL.head | apply AtL.tail))) (by kernel_rfl) (by kernel_rfl) (by kernel_rfl) (by exact fun _ _ _ _ h => h) (V.as (V.subI rfl rfl (by omega)) (by omega)) rfl ?_)
              go_step
              (refine takeV 5 _ (by (repeat (first | with_reducible exact AtL.head | apply AtL.tail))) (by kernel_rfl) (by kernel_rfl) (by kernel_rfl) (by exact fun _ _ _ _ h => h) (V.indexSl Try.underlying49 isz48 rfl rfl (by (repeat (first | exact IsN.auto | with_reducible apply IsN.add | with_reducible apply IsN.sub | with_reducible apply IsN.mul | with_reducible apply IsN.div | with_reducible apply IsN.mod | with_reducible apply IsN.min | with_reducible apply IsN.max | (with_reducible show (_ : Nat) ≤ _; omega) | exact IsN.toNat (by omega)))) (by omega) rfl (by first | with_reducible exact Nat.zero_add _ | with_reducible exact Nat.add_zero _ | exact rfl)) rfl ?_)
              go_step
              apply takeS 6 (by (repeat (first | with_reducible exact AtL.head | apply AtL.tail))) (by kernel_rfl) (by kernel_rfl) (by kernel_rfl) (by exact fun _ _ _ _ h => h) [11, 12, 13] (by kernel_rfl) (hS.sub (by (repeat (first | exact Sub.nil | with_reducible exact Sub.refl | (apply Sub.cons; (case p => (repeat (first | with_reducible exact Pull.head | apply Pull.tail)))) | apply Sub.skip))))
              case hfr => intro w hS; ((refine wpl (by kernel_rfl) ?_; apply wp_loadE hS 48 _ rfl _ _ rfl 2 (row_of rfl) _ _ _ _ _; (case hp => (repeat (first | with_reducible exact Pull.head | apply Pull.tail))); (case inst => infer_instance); (case he => with_reducible assumption); (case hq => exact rfl); (case hj => omega); refine put_move ?_; go_step)); refine wpList_nil ?_; exact ⟨rfl, rfl⟩
              case hd => rfl
              refine takeM 7 _ (by (repeat (first | with_reducible exact AtL.head | apply AtL.tail))) (by kernel_rfl) (by kernel_rfl) (by kernel_rfl) (by exact fun _ _ _ _ h => h) rfl ?_
              go_step
              refine takeM 8 _ (by (repeat (first | with_reducible exact AtL.head | apply AtL.tail))) (by kernel_rfl) (by kernel_rfl) (by kernel_rfl) (by exact fun _ _ _ _ h => h) rfl ?_
              go_step
              (refine takeV 9 _ (by (repeat (first | with_reducible exact AtL.head | apply AtL.tail))) (by kernel_rfl) (by kernel_rfl) (by kernel_rfl) (by exact fun _ _ _ _ h => h) (V.indexSl Try.underlying49 isz48 rfl rfl (by (repeat (first | exact IsN.auto | with_reducible apply IsN.add | with_reducible apply IsN.sub | with_reducible apply IsN.mul | with_reducible apply IsN.div | with_reducible apply IsN.mod | with_reducible apply IsN.min | with_reducible apply IsN.max | (with_reducible show (_ : Nat) ≤ _; omega) | exact IsN.toNat (by omega)))) (by omega) rfl (by first | with_reducible exact Nat.zero_add _ | with_reducible exact Nat.add_zero _ | exact rfl)) rfl ?_)
              go_step
              apply takeS 10 (by (repeat (first | with_reducible exact AtL.head | apply AtL.tail))) (by kernel_rfl) (by kernel_rfl) (by kernel_rfl) (by exact fun _ _ _ _ h => h) [11, 12, 13] (by kernel_rfl) (hS.sub (by (repeat (first | exact Sub.nil | with_reducible exact Sub.refl | (apply Sub.cons; (case p => (repeat (first | with_reducible exact Pull.head | apply Pull.tail)))) | apply Sub.skip))))
              case hfr => intro w hS; ((refine wpl (by kernel_rfl) ?_; apply wp_loadE hS 48 _ rfl _ _ rfl 2 (row_of rfl) _ _ _ _ _; (case hp => (repeat (first | with_reducible exact Pull.head | apply Pull.tail))); (case inst => infer_instance); (case he => with_reducible assumption); (case hq => exact rfl); (case hj => omega); refine put_move ?_; go_step)); refine wpList_nil ?_; exact ⟨rfl, rfl⟩
              case hd => rfl
              refine branch1 11 (by (repeat (first | with_reducible exact AtL.head | apply AtL.tail))) rfl (by kernel_rfl) ?_
              refine wp_callV (f := 20) rfl rfl Try.call20 (byWeight_any _ (elt P y) (elt P h)) ?_; rintro e w ⟨rfl, hE⟩; replace hS := hS.ext hE; clear hE; rw [HV.out]; refine ⟨_, rfl, ?_⟩
              refine ⟨fun h => absurd (by decide) h, ?_⟩
              refine drawn_move ?_
              go_step
              (refine takeV 12 _ (by (repeat (first | with_reducible exact AtL.head | apply AtL.tail))) (by kernel_rfl) (by kernel_rfl) (by kernel_rfl) (by exact fun _ _ _ _ h => h) (V.lss rfl rfl) rfl ?_)
              go_step
              (refine takeV 13 _ (by (repeat (first | with_reducible exact AtL.head | apply AtL.tail))) (by kernel_rfl) (by kernel_rfl) (by kernel_rfl) (by exact fun _ _ _ _ h => h) (V.notD rfl) rfl ?_)
              go_step
              refine drawn_done (by kernel_rfl) ?_ _
            by_cases hc2 : v < 0
            · skip
              repeat' (first
                | ((with_reducible show wpList _ _ _ (⟨_, .move _, _, _, _, _⟩ :: _) _ _); (first | go_big_want | go_step); go_step)
                | ((with_reducible show wpList _ _ _ (⟨_, .assign _, _, _, _, _⟩ :: _) _ _); (first | go_big_want | go_step); go_step)
                | ((fail_if_success (with_reducible show wpList _ _ _ (_ :: _) _ _)); go_step))
              go_roundg (h - st)
              case measure => omega
              case rel =>
                refine ⟨st, h, by omega, by omega, by omega, rfl, by go_num, HLO.out, fun k1 => ?_, hS⟩
                have := HV2.out.1 hc2
                rw [← hy]
                exact Int.le_of_lt this
            · skip
              repeat' (first
                | ((with_reducible show wpList _ _ _ (⟨some 173, .binOp .add _ _ _ _, _, _, _, _⟩ :: _) _ _); (refine wplV (.int _ (((h + 1 : Nat) : Int))) (V.as (V.addI rfl rfl (by omega)) (by omega)) rfl ?_; go_step))
                | ((with_reducible show wpList _ _ _ (⟨_, .move _, _, _, _, _⟩ :: _) _ _); (first | go_big_want | go_step); go_step)
                | ((with_reducible show wpList _ _ _ (⟨_, .assign _, _, _, _, _⟩ :: _) _ _); (first | go_big_want | go_step); go_step)
                | ((fail_if_success (with_reducible show wpList _ _ _ (_ :: _) _ _)); go_step))
              go_roundg (r - (h + 1))
              case measure => omega
              case rel =>
                refine ⟨h + 1, r, by omega, by omega, by omega, by go_num, rfl, fun k1 => ?_, HHI.out, hS⟩
                have := HV2.out
                rw [show T - (h + 1) = y by omega, Nat.add_sub_cancel]
                show (elt P h).w ≤ (elt P y).w
                omega
          · obtain rfl : st = r := by omega
            obtain ⟨en, hen⟩ : ∃ en, en = T - st := ⟨_, rfl⟩
            have HLO2 : Hid (a < st → m ≤ en → en < b → wk P (st - 1) ≤ wk P en) := fun k1 k2 k3 => by
              rw [hen]; exact HLO.out (by omega)
            have HHI2 : Hid (m < en → st < m → wk P (en - 1) ≤ wk P st) := fun k1 k2 => by
              rw [show en - 1 = T - 1 - st by omega]; exact HHI.out (by omega)
            clear HLO HHI
            repeat' (first
              | ((with_reducible show wpList _ _ _ (⟨_, .move _, _, _, _, _⟩ :: _) _ _); (first | go_big_want | go_step); go_step)
              | ((with_reducible show wpList _ _ _ (⟨some 151, .binOp .lss _ _ _ _, _, _, _, _⟩ :: _) _ _); (refine wplV _ (V.lss rfl rfl) (by kernel_rfl) ?_; go_step))
              | ((fail_if_success (with_reducible show wpList _ _ _ (_ :: _) _ _)); go_step))
            by_cases hrot : st < m ∧ m < en
            · have hrot1 := hrot.1
              have hrot2 := hrot.2
              repeat' (first
                | ((with_reducible show wpList _ _ _ (⟨some 177, .binOp .sub _ _ _ _, _, _, _, _⟩ :: _) _ _); (refine wplV (.int _ (((en : Nat) : Int))) (V.as (V.subI rfl rfl (by omega)) (by omega)) rfl ?_; go_step))
                | ((with_reducible show wpList _ _ _ (⟨_, .call ⟨.value (.func 35), _, _⟩, _, _, _, _⟩ :: _) _ _); refine wpl_call (f := 35) Try.call35 (by kernel_rfl) ?_; refine ⟨_, (rotate_any W _ _ rs' g n c st m en P hS Pull.head hrot1 hrot2 (by omega) hn byW), ?_⟩; rintro e w ⟨rfl, Q, hQ, hS2⟩; replace hS := hS2; clear hS2; refine ⟨_, rfl, ?_⟩; refine put_move ?_; go_step)
                | ((with_reducible show wpList _ _ _ (⟨_, .move _, _, _, _, _⟩ :: _) _ _); (first | go_big_want | go_step); go_step)
                | ((with_reducible show wpList _ _ _ (⟨_, .assign _, _, _, _, _⟩ :: _) _ _); (first | go_big_want | go_step); go_step)
                | ((with_reducible show wpList _ _ _ (⟨_, .pick _ _ _, _, _, _, _⟩ :: _) _ _); (refine wplPickT rfl (by kernel_rfl) ?_; go_step))
                | ((with_reducible show wpList _ _ _ (⟨some 180, .binOp .lss _ _ _ _, _, _, _, _⟩ :: _) _ _); (refine wplD _ (V.lss rfl rfl) (by kernel_rfl) (fun hB => ?_) (fun hB => ?_) <;> (try (have hF : False := (by omega); cases hF)) <;> go_step))
                | ((with_reducible show wpList _ _ _ (⟨some 184, .binOp .lss _ _ _ _, _, _, _, _⟩ :: _) _ _); (refine wplV _ (V.lss rfl rfl) (by kernel_rfl) ?_; go_step))
                | ((fail_if_success (with_reducible show wpList _ _ _ (_ :: _) _ _)); go_step))
              obtain ⟨s1, s2, s3, s4, hx⟩ := sym_parts HA1.out HA2.out ham hmb hmid (show en = mid + m - st by omega) (by omega) (by omega) (by omega) (by omega) (by omega) HLO2.out HHI2.out hQ
              have hQr := hQ.rg (show st ≤ m by omega) (show m ≤ en by omega)
              have hQl := hQr.len
              have HQR := hid (hQr.wide (show a ≤ st by omega) (show en ≤ b by omega) (by omega) (by omega))
              have HX := hid hx
              have S1 := hid s1
              have S2 := hid s2
              have S3 := hid s3
              have S4 := hid s4
              have g1 : a ≤ st := by omega
              have g2 : st ≤ mid := by omega
              have g3 : mid ≤ en := by omega
              have g4 : en ≤ b := by omega
              have g5 : mid - a ≤ N := by omega
              have g6 : b - mid ≤ N := by omega
              have g7 : a < mid := by omega
              have g8 : mid < b := by omega
              have hQn : Q.length = n := by omega
              clear hx s1 s2 s3 s4 hQ hQr HLO2 HHI2 HA1 HA2 F5 HS0a HS0b HR0a HR0b hen hlt hk hst hr f5 f1 f2 f3 f4 hT hmid e1 e2 hc h1' h2' hN hrot hQl hPl hp ham hmb
              by_cases hl : a < st ∧ st < mid
              · obtain ⟨hl1, hl2⟩ := hl
                have hb2 : mid ≤ n := by omega
                have HC := hid (fun (w : World) (hS : St W w (pks g n c Q :: rs')) => IH.out W w (pks g n c Q :: rs') rs' g n c a st mid Q g5 hS Pull.head hl1 hl2 hb2 hn S1.out S2.out)
                repeat' (first
                  | ((with_reducible show wpList _ _ _ (⟨_, .call ⟨.value (.func 33), _, _⟩, _, _, _, _⟩ :: _) _ _); refine wpl_call (f := 33) Try.call33 (by kernel_rfl) ?_; refine ⟨_, (HC.out _ hS), ?_⟩; rintro e w ⟨rfl, R, hR1, hR2, hS2⟩; replace hS := hS2; clear hS2; refine ⟨_, rfl, ?_⟩; refine put_move ?_; go_step)
                  | ((with_reducible show wpList _ _ _ (⟨_, .move _, _, _, _, _⟩ :: _) _ _); (first | go_big_want | go_step); go_step)
                  | ((with_reducible show wpList _ _ _ (⟨_, .pick _ _ _, _, _, _, _⟩ :: _) _ _); (refine wplPickT rfl (by kernel_rfl) ?_; go_step))
                  | ((with_reducible show wpList _ _ _ (⟨some 194, .binOp .lss _ _ _ _, _, _, _, _⟩ :: _) _ _); (refine wplD _ (V.lss rfl rfl) (by kernel_rfl) (fun hB => ?_) (fun hB => ?_) <;> (try (have hF : False := (by omega); cases hF)) <;> go_step))
                  | ((with_reducible show wpList _ _ _ (⟨some 198, .binOp .lss _ _ _ _, _, _, _, _⟩ :: _) _ _); (refine wplV _ (V.lss rfl rfl) (by kernel_rfl) ?_; go_step))
                  | ((fail_if_success (with_reducible show wpList _ _ _ (_ :: _) _ _)); go_step))
                have S5 := hid (S3.out.same (Q := R) fun x k1 k2 => hR2.out x (by omega))
                have S6 := hid (S4.out.same (Q := R) fun x k1 k2 => hR2.out x (by omega))
                have R1 := hid hR1
                have R2 := hid hR2
                clear hR1 hR2
                by_cases hr : mid < en ∧ en < b
                · obtain ⟨hr1, hr2⟩ := hr
                  have HC := hid (fun (w : World) (hS : St W w (pks g n c R :: rs')) => IH.out W w (pks g n c R :: rs') rs' g n c mid en b R g6 hS Pull.head hr1 hr2 hb hn S5.out S6.out)
                  repeat' (first
                    | ((with_reducible show wpList _ _ _ (⟨_, .call ⟨.value (.func 33), _, _⟩, _, _, _, _⟩ :: _) _ _); refine wpl_call (f := 33) Try.call33 (by kernel_rfl) ?_; refine ⟨_, (HC.out _ hS), ?_⟩; rintro e w ⟨rfl, Z, hZ1, hZ2, hS2⟩; replace hS := hS2; clear hS2; refine ⟨_, rfl, ?_⟩; refine put_move ?_; go_step)
                    | ((with_reducible show wpList _ _ _ (⟨_, .move _, _, _, _, _⟩ :: _) _ _); (first | go_big_want | go_step); go_step)
                    | ((with_reducible show wpList _ _ _ (⟨_, .pick _ _ _, _, _, _, _⟩ :: _) _ _); (refine wplPickT rfl (by kernel_rfl) ?_; go_step))
                    | ((with_reducible show wpList _ _ _ (⟨some 208, .binOp .lss _ _ _ _, _, _, _, _⟩ :: _) _ _); (refine wplD _ (V.lss rfl rfl) (by kernel_rfl) (fun hB => ?_) (fun hB => ?_) <;> (try (have hF : False := (by omega); cases hF)) <;> go_step))
                    | ((with_reducible show wpList _ _ _ (⟨some 212, .binOp .lss _ _ _ _, _, _, _, _⟩ :: _) _ _); (refine wplV _ (V.lss rfl rfl) (by kernel_rfl) ?_; go_step))
                    | ((fail_if_success (with_reducible show wpList _ _ _ (_ :: _) _ _)); go_step))
                  go_end0
                  obtain ⟨j1, j2⟩ := sym_join (show a ≤ mid by omega) (show mid ≤ b by omega) (show b ≤ Q.length by rw [hQn]; exact hb) HX.out R2.out hZ2 R1.out hZ1
                  exact ⟨rfl, Z, j1, HQR.out.trans j2, hS⟩
                · have hZ1 : Asc PkV.w mid b R := by
                    by_cases c1 : mid < en
                    · exact S5.out.sub (Nat.le_refl _) (by omega)
                    · exact S6.out.sub (by omega) (Nat.le_refl _)
                  repeat' (first
                    | ((with_reducible show wpList _ _ _ (⟨_, .move _, _, _, _, _⟩ :: _) _ _); (first | go_big_want | go_step); go_step)
                    | ((with_reducible show wpList _ _ _ (⟨_, .pick _ _ _, _, _, _, _⟩ :: _) _ _); (refine wplPickT rfl (by kernel_rfl) ?_; go_step))
                    | ((with_reducible show wpList _ _ _ (⟨some 208, .binOp .lss _ _ _ _, _, _, _, _⟩ :: _) _ _); (refine wplD _ (V.lss rfl rfl) (by kernel_rfl) (fun hB => ?_) (fun hB => ?_) <;> (try (have hF : False := (by omega); cases hF)) <;> go_step))
                    | ((with_reducible show wpList _ _ _ (⟨some 212, .binOp .lss _ _ _ _, _, _, _, _⟩ :: _) _ _); (refine wplV _ (V.lss rfl rfl) (by kernel_rfl) ?_; go_step))
                    | ((fail_if_success (with_reducible show wpList _ _ _ (_ :: _) _ _)); go_step))
                  all_goals
                    go_end0
                    obtain ⟨j1, j2⟩ := sym_join (show a ≤ mid by omega) (show mid ≤ b by omega) (show b ≤ Q.length by rw [hQn]; exact hb) HX.out R2.out (Rg.refl _ _ _) R1.out hZ1
                    exact ⟨rfl, R, j1, HQR.out.trans j2, hS⟩
              · obtain ⟨R, hRe⟩ : ∃ R, R = Q := ⟨Q, rfl⟩
                have hR2 : Rg a mid Q R := by rw [hRe]; exact Rg.refl _ _ _
                have hR1 : Asc PkV.w a mid R := by
                  rw [hRe]
                  by_cases c1 : a < st
                  · exact S1.out.sub (Nat.le_refl _) (by omega)
                  · exact S2.out.sub (by omega) (Nat.le_refl _)
                rw [← hRe] at hS
                repeat' (first
                  | go_skip
                  | ((with_reducible show wpList _ _ _ (⟨_, .move _, _, _, _, _⟩ :: _) _ _); (first | go_big_want | go_step); go_step)
                  | ((with_reducible show wpList _ _ _ (⟨_, .pick _ _ _, _, _, _, _⟩ :: _) _ _); first | (refine wplPickT rfl (by kernel_rfl) ?_; go_step) | (refine wplPickF rfl (by kernel_rfl) ?_; go_step))
                  | ((with_reducible show wpList _ _ _ (⟨some 194, .binOp .lss _ _ _ _, _, _, _, _⟩ :: _) _ _); (refine wplD _ (V.lss rfl rfl) (by kernel_rfl) (fun hB => ?_) (fun hB => ?_) <;> (try (have hF : False := (by omega); cases hF)) <;> go_step))
                  | ((with_reducible show wpList _ _ _ (⟨some 198, .binOp .lss _ _ _ _, _, _, _, _⟩ :: _) _ _); (refine wplV _ (V.lss rfl rfl) (by kernel_rfl) ?_; go_step))
                  | ((fail_if_success (with_reducible show wpList _ _ _ (_ :: _) _ _)); go_step))
                all_goals
                  have S5 := hid (S3.out.same (Q := R) fun x k1 k2 => hR2.out x (by omega))
                  have S6 := hid (S4.out.same (Q := R) fun x k1 k2 => hR2.out x (by omega))
                  have R1 := hid hR1
                  have R2 := hid hR2
                  clear hR1 hR2
                  by_cases hr : mid < en ∧ en < b
                  · obtain ⟨hr1, hr2⟩ := hr
                    have HC := hid (fun (w : World) (hS : St W w (pks g n c R :: rs')) => IH.out W w (pks g n c R :: rs') rs' g n c mid en b R g6 hS Pull.head hr1 hr2 hb hn S5.out S6.out)
                    repeat' (first
                      | ((with_reducible show wpList _ _ _ (⟨_, .call ⟨.value (.func 33), _, _⟩, _, _, _, _⟩ :: _) _ _); refine wpl_call (f := 33) Try.call33 (by kernel_rfl) ?_; refine ⟨_, (HC.out _ hS), ?_⟩; rintro e w ⟨rfl, Z, hZ1, hZ2, hS2⟩; replace hS := hS2; clear hS2; refine ⟨_, rfl, ?_⟩; refine put_move ?_; go_step)
                      | ((with_reducible show wpList _ _ _ (⟨_, .move _, _, _, _, _⟩ :: _) _ _); (first | go_big_want | go_step); go_step)
                      | ((with_reducible show wpList _ _ _ (⟨_, .pick _ _ _, _, _, _, _⟩ :: _) _ _); (refine wplPickT rfl (by kernel_rfl) ?_; go_step))
                      | ((with_reducible show wpList _ _ _ (⟨some 208, .binOp .lss _ _ _ _, _, _, _, _⟩ :: _) _ _); (refine wplD _ (V.lss rfl rfl) (by kernel_rfl) (fun hB => ?_) (fun hB => ?_) <;> (try (have hF : False := (by omega); cases hF)) <;> go_step))
                      | ((with_reducible show wpList _ _ _ (⟨some 212, .binOp .lss _ _ _ _, _, _, _, _⟩ :: _) _ _); (refine wplV _ (V.lss rfl rfl) (by kernel_rfl) ?_; go_step))
                      | ((fail_if_success (with_reducible show wpList _ _ _ (_ :: _) _ _)); go_step))
                    go_end0
                    obtain ⟨j1, j2⟩ := sym_join (show a ≤ mid by omega) (show mid ≤ b by omega) (show b ≤ Q.length by rw [hQn]; exact hb) HX.out R2.out hZ2 R1.out hZ1
                    exact ⟨rfl, Z, j1, HQR.out.trans j2, hS⟩
                  · have hZ1 : Asc PkV.w mid b R := by
                      by_cases c1 : mid < en
                      · exact S5.out.sub (Nat.le_refl _) (by omega)
                      · exact S6.out.sub (by omega) (Nat.le_refl _)
                    repeat' (first
                      | ((with_reducible show wpList _ _ _ (⟨_, .move _, _, _, _, _⟩ :: _) _ _); (first | go_big_want | go_step); go_step)
                      | ((with_reducible show wpList _ _ _ (⟨_, .pick _ _ _, _, _, _, _⟩ :: _) _ _); (refine wplPickT rfl (by kernel_rfl) ?_; go_step))
                      | ((with_reducible show wpList _ _ _ (⟨some 208, .binOp .lss _ _ _ _, _, _, _, _⟩ :: _) _ _); (refine wplD _ (V.lss rfl rfl) (by kernel_rfl) (fun hB => ?_) (fun hB => ?_) <;> (try (have hF : False := (by omega); cases hF)) <;> go_step))
                      | ((with_reducible show wpList _ _ _ (⟨some 212, .binOp .lss _ _ _ _, _, _, _, _⟩ :: _) _ _); (refine wplV _ (V.lss rfl rfl) (by kernel_rfl) ?_; go_step))
                      | ((fail_if_success (with_reducible show wpList _ _ _ (_ :: _) _ _)); go_step))
                    all_goals
                      go_end0
                      obtain ⟨j1, j2⟩ := sym_join (show a ≤ mid by omega) (show mid ≤ b by omega) (show b ≤ Q.length by rw [hQn]; exact hb) HX.out R2.out (Rg.refl _ _ _) R1.out hZ1
                      exact ⟨rfl, R, j1, HQR.out.trans j2, hS⟩
            · obtain ⟨Q, hQe, hQ⟩ : ∃ Q, Q = P ∧ Rot st m en P Q := ⟨P, rfl, Rot.triv (by omega) (by omega) (by omega) (by omega)⟩
              rw [← hQe] at hS
              repeat' (first
                | ((with_reducible show wpList _ _ _ (⟨some 177, .binOp .sub _ _ _ _, _, _, _, _⟩ :: _) _ _); (refine wplV (.int _ (((en : Nat) : Int))) (V.as (V.subI rfl rfl (by omega)) (by omega)) rfl ?_; go_step))
                | ((with_reducible show wpList _ _ _ (⟨_, .move _, _, _, _, _⟩ :: _) _ _); (first | go_big_want | go_step); go_step)
                | ((with_reducible show wpList _ _ _ (⟨_, .assign _, _, _, _, _⟩ :: _) _ _); (first | go_big_want | go_step); go_step)
                | ((with_reducible show wpList _ _ _ (⟨_, .pick _ _ _, _, _, _, _⟩ :: _) _ _); (refine wplPickT rfl (by kernel_rfl) ?_; go_step))
                | ((with_reducible show wpList _ _ _ (⟨some 180, .binOp .lss _ _ _ _, _, _, _, _⟩ :: _) _ _); (refine wplD _ (V.lss rfl rfl) (by kernel_rfl) (fun hB => ?_) (fun hB => ?_) <;> (try (have hF : False := (by omega); cases hF)) <;> go_step))
                | ((with_reducible show wpList _ _ _ (⟨some 184, .binOp .lss _ _ _ _, _, _, _, _⟩ :: _) _ _); (refine wplV _ (V.lss rfl rfl) (by kernel_rfl) ?_; go_step))
                | ((fail_if_success (with_reducible show wpList _ _ _ (_ :: _) _ _)); go_step))
              all_goals
                obtain ⟨s1, s2, s3, s4, hx⟩ := sym_parts HA1.out HA2.out ham hmb hmid (show en = mid + m - st by omega) (by omega) (by omega) (by omega) (by omega) (by omega) HLO2.out HHI2.out hQ
                have hQr := hQ.rg (show st ≤ m by omega) (show m ≤ en by omega)
                have hQl := hQr.len
                have HQR := hid (hQr.wide (show a ≤ st by omega) (show en ≤ b by omega) (by omega) (by omega))
                have HX := hid hx
                have S1 := hid s1
                have S2 := hid s2
                have S3 := hid s3
                have S4 := hid s4
                have g1 : a ≤ st := by omega
                have g2 : st ≤ mid := by omega
                have g3 : mid ≤ en := by omega
                have g4 : en ≤ b := by omega
                have g5 : mid - a ≤ N := by omega
                have g6 : b - mid ≤ N := by omega
                have g7 : a < mid := by omega
                have g8 : mid < b := by omega
                have hQn : Q.length = n := by omega
                clear hx s1 s2 s3 s4 hQ hQr HLO2 HHI2 HA1 HA2 F5 HS0a HS0b HR0a HR0b hen hlt hk hst hr f5 f1 f2 f3 f4 hT hmid e1 e2 hc h1' h2' hN hrot hQl hPl hp ham hmb
                by_cases hl : a < st ∧ st < mid
                · obtain ⟨hl1, hl2⟩ := hl
                  have hb2 : mid ≤ n := by omega
                  have HC := hid (fun (w : World) (hS : St W w (pks g n c Q :: rs')) => IH.out W w (pks g n c Q :: rs') rs' g n c a st mid Q g5 hS Pull.head hl1 hl2 hb2 hn S1.out S2.out)
                  repeat' (first
                    | ((with_reducible show wpList _ _ _ (⟨_, .call ⟨.value (.func 33), _, _⟩, _, _, _, _⟩ :: _) _ _); refine wpl_call (f := 33) Try.call33 (by kernel_rfl) ?_; refine ⟨_, (HC.out _ hS), ?_⟩; rintro e w ⟨rfl, R, hR1, hR2, hS2⟩; replace hS := hS2; clear hS2; refine ⟨_, rfl, ?_⟩; refine put_move ?_; go_step)
                    | ((with_reducible show wpList _ _ _ (⟨_, .move _, _, _, _, _⟩ :: _) _ _); (first | go_big_want | go_step); go_step)
                    | ((with_reducible show wpList _ _ _ (⟨_, .pick _ _ _, _, _, _, _⟩ :: _) _ _); (refine wplPickT rfl (by kernel_rfl) ?_; go_step))
                    | ((with_reducible show wpList _ _ _ (⟨some 194, .binOp .lss _ _ _ _, _, _, _, _⟩ :: _) _ _); (refine wplD _ (V.lss rfl rfl) (by kernel_rfl) (fun hB => ?_) (fun hB => ?_) <;> (try (have hF : False := (by omega); cases hF)) <;> go_step))
                    | ((with_reducible show wpList _ _ _ (⟨some 198, .binOp .lss _ _ _ _, _, _, _, _⟩ :: _) _ _); (refine wplV _ (V.lss rfl rfl) (by kernel_rfl) ?_; go_step))
                    | ((fail_if_success (with_reducible show wpList _ _ _ (_ :: _) _ _)); go_step))
                  have S5 := hid (S3.out.same (Q := R) fun x k1 k2 => hR2.out x (by omega))
                  have S6 := hid (S4.out.same (Q := R) fun x k1 k2 => hR2.out x (by omega))
                  have R1 := hid hR1
                  have R2 := hid hR2
                  clear hR1 hR2
                  by_cases hr : mid < en ∧ en < b
                  · obtain ⟨hr1, hr2⟩ := hr
                    have HC := hid (fun (w : World) (hS : St W w (pks g n c R :: rs')) => IH.out W w (pks g n c R :: rs') rs' g n c mid en b R g6 hS Pull.head hr1 hr2 hb hn S5.out S6.out)
                    repeat' (first
                      | ((with_reducible show wpList _ _ _ (⟨_, .call ⟨.value (.func 33), _, _⟩, _, _, _, _⟩ :: _) _ _); refine wpl_call (f := 33) Try.call33 (by kernel_rfl) ?_; refine ⟨_, (HC.out _ hS), ?_⟩; rintro e w ⟨rfl, Z, hZ1, hZ2, hS2⟩; replace hS := hS2; clear hS2; refine ⟨_, rfl, ?_⟩; refine put_move ?_; go_step)
                      | ((with_reducible show wpList _ _ _ (⟨_, .move _, _, _, _, _⟩ :: _) _ _); (first | go_big_want | go_step); go_step)
                      | ((with_reducible show wpList _ _ _ (⟨_, .pick _ _ _, _, _, _, _⟩ :: _) _ _); (refine wplPickT rfl (by kernel_rfl) ?_; go_step))
                      | ((with_reducible show wpList _ _ _ (⟨some 208, .binOp .lss _ _ _ _, _, _, _, _⟩ :: _) _ _); (refine wplD _ (V.lss rfl rfl) (by kernel_rfl) (fun hB => ?_) (fun hB => ?_) <;> (try (have hF : False := (by omega); cases hF)) <;> go_step))
                      | ((with_reducible show wpList _ _ _ (⟨some 212, .binOp .lss _ _ _ _, _, _, _, _⟩ :: _) _ _); (refine wplV _ (V.lss rfl rfl) (by kernel_rfl) ?_; go_step))
                      | ((fail_if_success (with_reducible show wpList _ _ _ (_ :: _) _ _)); go_step))
                    go_end0
                    obtain ⟨j1, j2⟩ := sym_join (show a ≤ mid by omega) (show mid ≤ b by omega) (show b ≤ Q.length by rw [hQn]; exact hb) HX.out R2.out hZ2 R1.out hZ1
                    exact ⟨rfl, Z, j1, HQR.out.trans j2, hS⟩
                  · have hZ1 : Asc PkV.w mid b R := by
                      by_cases c1 : mid < en
                      · exact S5.out.sub (Nat.le_refl _) (by omega)
                      · exact S6.out.sub (by omega) (Nat.le_refl _)
                    repeat' (first
                      | go_skip
                      | ((with_reducible show wpList _ _ _ (⟨_, .move _, _, _, _, _⟩ :: _) _ _); (first | go_big_want | go_step); go_step)
                      | ((with_reducible show wpList _ _ _ (⟨_, .pick _ _ _, _, _, _, _⟩ :: _) _ _); first | (refine wplPickT rfl (by kernel_rfl) ?_; go_step) | (refine wplPickF rfl (by kernel_rfl) ?_; go_step))
                      | ((with_reducible show wpList _ _ _ (⟨some 208, .binOp .lss _ _ _ _, _, _, _, _⟩ :: _) _ _); (refine wplD _ (V.lss rfl rfl) (by kernel_rfl) (fun hB => ?_) (fun hB => ?_) <;> (try (have hF : False := (by omega); cases hF)) <;> go_step))
                      | ((with_reducible show wpList _ _ _ (⟨some 212, .binOp .lss _ _ _ _, _, _, _, _⟩ :: _) _ _); (refine wplV _ (V.lss rfl rfl) (by kernel_rfl) ?_; go_step))
                      | ((fail_if_success (with_reducible show wpList _ _ _ (_ :: _) _ _)); go_step))
                    all_goals
                      go_end0
                      obtain ⟨j1, j2⟩ := sym_join (show a ≤ mid by omega) (show mid ≤ b by omega) (show b ≤ Q.length by rw [hQn]; exact hb) HX.out R2.out (Rg.refl _ _ _) R1.out hZ1
                      exact ⟨rfl, R, j1, HQR.out.trans j2, hS⟩
                · obtain ⟨R, hRe⟩ : ∃ R, R = Q := ⟨Q, rfl⟩
                  have hR2 : Rg a mid Q R := by rw [hRe]; exact Rg.refl _ _ _
                  have hR1 : Asc PkV.w a mid R := by
                    rw [hRe]
                    by_cases c1 : a < st
                    · exact S1.out.sub (Nat.le_refl _) (by omega)
                    · exact S2.out.sub (by omega) (Nat.le_refl _)
                  rw [← hRe] at hS
                  repeat' (first
                    | go_skip
                    | ((with_reducible show wpList _ _ _ (⟨_, .move _, _, _, _, _⟩ :: _) _ _); (first | go_big_want | go_step); go_step)
                    | ((with_reducible show wpList _ _ _ (⟨_, .pick _ _ _, _, _, _, _⟩ :: _) _ _); first | (refine wplPickT rfl (by kernel_rfl) ?_; go_step) | (refine wplPickF rfl (by kernel_rfl) ?_; go_step))
                    | ((with_reducible show wpList _ _ _ (⟨some 194, .binOp .lss _ _ _ _, _, _, _, _⟩ :: _) _ _); (refine wplD _ (V.lss rfl rfl) (by kernel_rfl) (fun hB => ?_) (fun hB => ?_) <;> (try (have hF : False := (by omega); cases hF)) <;> go_step))
                    | ((with_reducible show wpList _ _ _ (⟨some 198, .binOp .lss _ _ _ _, _, _, _, _⟩ :: _) _ _); (refine wplV _ (V.lss rfl rfl) (by kernel_rfl) ?_; go_step))
                    | ((fail_if_success (with_reducible show wpList _ _ _ (_ :: _) _ _)); go_step))
                  all_goals
                    have S5 := hid (S3.out.same (Q := R) fun x k1 k2 => hR2.out x (by omega))
                    have S6 := hid (S4.out.same (Q := R) fun x k1 k2 => hR2.out x (by omega))
                    have R1 := hid hR1
                    have R2 := hid hR2
                    clear hR1 hR2
                    by_cases hr : mid < en ∧ en < b
                    · obtain ⟨hr1, hr2⟩ := hr
                      have HC := hid (fun (w : World) (hS : St W w (pks g n c R :: rs')) => IH.out W w (pks g n c R :: rs') rs' g n c mid en b R g6 hS Pull.head hr1 hr2 hb hn S5.out S6.out)
                      repeat' (first
                        | ((with_reducible show wpList _ _ _ (⟨_, .call ⟨.value (.func 33), _, _⟩, _, _, _, _⟩ :: _) _ _); refine wpl_call (f := 33) Try.call33 (by kernel_rfl) ?_; refine ⟨_, (HC.out _ hS), ?_⟩; rintro e w ⟨rfl, Z, hZ1, hZ2, hS2⟩; replace hS := hS2; clear hS2; refine ⟨_, rfl, ?_⟩; refine put_move ?_; go_step)
                        | ((with_reducible show wpList _ _ _ (⟨_, .move _, _, _, _, _⟩ :: _) _ _); (first | go_big_want | go_step); go_step)
                        | ((with_reducible show wpList _ _ _ (⟨_, .pick _ _ _, _, _, _, _⟩ :: _) _ _); (refine wplPickT rfl (by kernel_rfl) ?_; go_step))
                        | ((with_reducible show wpList _ _ _ (⟨some 208, .binOp .lss _ _ _ _, _, _, _, _⟩ :: _) _ _); (refine wplD _ (V.lss rfl rfl) (by kernel_rfl) (fun hB => ?_) (fun hB => ?_) <;> (try (have hF : False := (by omega); cases hF)) <;> go_step))
                        | ((with_reducible show wpList _ _ _ (⟨some 212, .binOp .lss _ _ _ _, _, _, _, _⟩ :: _) _ _); (refine wplV _ (V.lss rfl rfl) (by kernel_rfl) ?_; go_step))
                        | ((fail_if_success (with_reducible show wpList _ _ _ (_ :: _) _ _)); go_step))
                      go_end0
                      obtain ⟨j1, j2⟩ := sym_join (show a ≤ mid by omega) (show mid ≤ b by omega) (show b ≤ Q.length by rw [hQn]; exact hb) HX.out R2.out hZ2 R1.out hZ1
                      exact ⟨rfl, Z, j1, HQR.out.trans j2, hS⟩
                    · have hZ1 : Asc PkV.w mid b R := by
                        by_cases c1 : mid < en
                        · exact S5.out.sub (Nat.le_refl _) (by omega)
                        · exact S6.out.sub (by omega) (Nat.le_refl _)
                      repeat' (first
                        | go_skip
                        | ((with_reducible show wpList _ _ _ (⟨_, .move _, _, _, _, _⟩ :: _) _ _); (first | go_big_want | go_step); go_step)
                        | ((with_reducible show wpList _ _ _ (⟨_, .pick _ _ _, _, _, _, _⟩ :: _) _ _); first | (refine wplPickT rfl (by kernel_rfl) ?_; go_step) | (refine wplPickF rfl (by kernel_rfl) ?_; go_step))
                        | ((with_reducible show wpList _ _ _ (⟨some 208, .binOp .lss _ _ _ _, _, _, _, _⟩ :: _) _ _); (refine wplD _ (V.lss rfl rfl) (by kernel_rfl) (fun hB => ?_) (fun hB => ?_) <;> (try (have hF : False := (by omega); cases hF)) <;> go_step))
                        | ((with_reducible show wpList _ _ _ (⟨some 212, .binOp .lss _ _ _ _, _, _, _, _⟩ :: _) _ _); (refine wplV _ (V.lss rfl rfl) (by kernel_rfl) ?_; go_step))
                        | ((fail_if_success (with_reducible show wpList _ _ _ (_ :: _) _ _)); go_step))
                      all_goals
                        go_end0
                        obtain ⟨j1, j2⟩ := sym_join (show a ≤ mid by omega) (show mid ≤ b by omega) (show b ≤ Q.length by rw [hQn]; exact hb) HX.out R2.out (Rg.refl _ _ _) R1.out hZ1
                        exact ⟨rfl, R, j1, HQR.out.trans j2, hS⟩
      · have e1 := HS0b.out hc
        have e2 := HR0b.out hc
        repeat' (first
          | ((with_reducible show wpList _ _ _ (⟨some 131, .binOp .add _ _ _ _, _, _, _, _⟩ :: _) _ _); (refine wplV (.int _ (((a + b : Nat) : Int))) (V.as (V.addI rfl rfl (by omega)) (by omega)) rfl ?_; go_step))
          | ((with_reducible show wpList _ _ _ (⟨some 133, .binOp .shr _ _ _ _, _, _, _, _⟩ :: _) _ _); (refine wplV (.int _ (((mid : Nat) : Int))) (V.as (V.shr rfl rfl (by (repeat (first | exact IsN.auto | with_reducible apply IsN.add | with_reducible apply IsN.sub | with_reducible apply IsN.mul | with_reducible apply IsN.div | with_reducible apply IsN.mod | with_reducible apply IsN.min | with_reducible apply IsN.max | (with_reducible show (_ : Nat) ≤ _; omega) | exact IsN.toNat (by omega)))) (by omega) rfl) (by omega)) rfl ?_; go_step))
          | ((with_reducible show wpList _ _ _ (⟨some 137, .binOp .add _ _ _ _, _, _, _, _⟩ :: _) _ _); (refine wplV (.int _ (((T : Nat) : Int))) (V.as (V.addI rfl rfl (by omega)) (by omega)) rfl ?_; go_step))
          | ((with_reducible show wpList _ _ _ (⟨_, .move _, _, _, _, _⟩ :: _) _ _); (first | go_big_want | go_step); go_step)
          | ((with_reducible show wpList _ _ _ (⟨_, .assign _, _, _, _, _⟩ :: _) _ _); (first | go_big_want | go_step); go_step)
          | ((with_reducible show wpList _ _ _ (⟨some 132, .convert 3 64 _, _, _, _, _⟩ :: _) _ _); (refine wplV _ (V.convI (by rw [Try.underlying3]; rfl) Try.underlying64 rfl (IntWalk.u64_in _ (by omega))) (by kernel_rfl) ?_; go_step))
          | ((with_reducible show wpList _ _ _ (⟨some 134, .convert 64 3 _, _, _, _, _⟩ :: _) _ _); (refine wplV _ (V.convI (by rw [Try.underlying64]; rfl) Try.underlying3 rfl (IntWalk.i64_in _ (by omega))) (by kernel_rfl) ?_; go_step))
          | ((with_reducible show wpList _ _ _ (⟨some 140, .binOp .gtr _ _ _ _, _, _, _, _⟩ :: _) _ _); (refine wplV _ (V.gtr rfl rfl) (by kernel_rfl) ?_; go_step))
          | ((fail_if_success (with_reducible show wpList _ _ _ (_ :: _) _ _)); go_step))
        repeat' (first
          | ((with_reducible show wpList _ _ _ (⟨some 148, .binOp .sub _ _ _ _, _, _, _, _⟩ :: _) _ _); (refine wplV (.int _ (((T - 1 : Nat) : Int))) (V.as (V.subI rfl rfl (by omega)) (by omega)) rfl ?_; go_step))
          | ((with_reducible show wpList _ _ _ (⟨_, .assign _, _, _, _, _⟩ :: _) _ _); (first | go_big_want | go_step); go_step)
          | ((fail_if_success (with_reducible show wpList _ _ _ (_ :: _) _ _)); go_step))
        go_loopg [20, 21] (r0 - s0) (fun gk iv jv w => ∃ (st r : Nat), gk + st = r ∧ s0 ≤ st ∧ r ≤ r0 ∧ iv = .int .i64 st ∧ jv = .int .i64 r ∧ (s0 < st → wk P (st - 1) ≤ wk P (T - st)) ∧ (r < r0 → wk P (T - 1 - r) ≤ wk P r) ∧ St W w (pks g n c P :: rs'))
        case atStart => exact ⟨s0, r0, by omega, by omega, by omega, by first | rfl | rw [e1], by first | rfl | rw [e2], fun h => by omega, fun h => by omega, hS⟩
        case round =>
          clear hS
          obtain ⟨st, r, hk, hst, hr, rfl, rfl, hlo, hhi, hS⟩ := hrel
          have HLO := hid hlo
          have HHI := hid hhi
          clear hlo hhi
          have f5 := F5.out st hst (by omega)
          by_cases hlt : st < r
          · obtain ⟨h, hh⟩ : ∃ h, h = (st + r) / 2 := ⟨_, rfl⟩
            obtain ⟨y, hy⟩ : ∃ y, y = T - 1 - h := ⟨_, rfl⟩
            have f6 := F5.out (h + 1) (by omega) (by omega)
            obtain ⟨v, hv⟩ : ∃ v, cmpv (elt P y).w (elt P h).w = v := ⟨_, rfl⟩
            have hv2 := cmpv_lt (elt P y).w (elt P h).w
            rw [hv] at hv2
            have HV := hid hv
            have HV2 := hid hv2
            clear hv hv2
            repeat' (first
              | ((with_reducible show wpList _ _ _ (⟨some 154, .binOp .add _ _ _ _, _, _, _, _⟩ :: _) _ _); (refine wplV (.int _ (((st + r : Nat) : Int))) (V.as (V.addI rfl rfl (by omega)) (by omega)) rfl ?_; go_step))
              | ((with_reducible show wpList _ _ _ (⟨some 156, .binOp .shr _ _ _ _, _, _, _, _⟩ :: _) _ _); (refine wplV (.int _ (((h : Nat) : Int))) (V.as (V.shr rfl rfl (by (repeat (first | exact IsN.auto | with_reducible apply IsN.add | with_reducible apply IsN.sub | with_reducible apply IsN.mul | with_reducible apply IsN.div | with_reducible apply IsN.mod | with_reducible apply IsN.min | with_reducible apply IsN.max | (with_reducible show (_ : Nat) ≤ _; omega) | exact IsN.toNat (by omega)))) (by omega) rfl) (by omega)) rfl ?_; go_step))
              | ((with_reducible show wpList _ _ _ (⟨_, .move _, _, _, _, _⟩ :: _) _ _); (first | go_big_want | go_step); go_step)
              | ((with_reducible show wpList _ _ _ (⟨_, .assign _, _, _, _, _⟩ :: _) _ _); (first | go_big_want | go_step); go_step)
              | ((with_reducible show wpList _ _ _ (⟨some 151, .binOp .lss _ _ _ _, _, _, _, _⟩ :: _) _ _); (refine wplV _ (V.lss rfl rfl) (by kernel_rfl) ?_; go_step))
              | ((with_reducible show wpList _ _ _ (⟨some 155, .convert 3 64 _, _, _, _, _⟩ :: _) _ _); (refine wplV _ (V.convI (by rw [Try.underlying3]; rfl) Try.underlying64 rfl (IntWalk.u64_in _ (by omega))) (by kernel_rfl) ?_; go_step))
              | ((with_reducible show wpList _ _ _ (⟨some 157, .convert 64 3 _, _, _, _, _⟩ :: _) _ _); (refine wplV _ (V.convI (by rw [Try.underlying64]; rfl) Try.underlying3 rfl (IntWalk.i64_in _ (by omega))) (by kernel_rfl) ?_; go_step))
              | ((fail_if_success (with_reducible show wpList _ _ _ (_ :: _) _ _)); go_step))
            refine drawn_lit [11] (fun w => St W w (pks g n c P :: rs')) (by kernel_rfl) ?_
            replace hS := hS.drew
            focus
              refine takeM 0 _ (by (repeat (first | with_reducible exact AtL.head | apply AtL.tail))) (by kernel_rfl) (by kernel_rfl) (by kernel_rfl) (by exact fun _ _ _ _ h => h) rfl ?_
              go_step
              refine takeM 1 _ (by (repeat (first | with_reducible exact AtL.head | apply AtL.tail))) (by kernel_rfl) (by kernel_rfl) (by kernel_rfl) (by exact fun _ _ _ _ h => h) rfl ?_
              go_step
              refine takeM 2 _ (by (repeat (first | with_reducible exact AtL.head | apply AtL.tail))) (by kernel_rfl) (by kernel_rfl) (by kernel_rfl) (by exact fun _ _ _ _ h => h) rfl ?_
              go_step
              refine takeM 3 _ (by (repeat (first | with_reducible exact AtL.head | apply AtL.tail))) (by kernel_rfl) (by kernel_rfl) (by kernel_rfl) (by exact fun _ _ _ _ h => h) rfl ?_
              go_step
              (refine takeV 4 (.int _ (((y : Nat) : Int))) (by (repeat (first | with_reducible exact AtL.head | apply AtL.tail))) (by kernel_rfl) (by kernel_rfl) (by kernel_rfl) (by exact fun _ _ _ _ h => h) (V.as (V.subI rfl rfl (by omega)) (by omega)) rfl ?_)
              go_step
              (refine takeV 5 _ (by (repeat (first | with_reducible exact AtL.head | apply AtL.tail))) (by kernel_rfl) (by kernel_rfl) (by kernel_rfl) (by exact fun _ _ _ _ h => h) (V.indexSl Try.underlying49 isz48 rfl rfl (by (repeat (first | exact IsN.auto | with_reducible apply IsN.add | with_reducible apply IsN.sub | with_reducible apply IsN.mul | with_reducible apply IsN.div | with_reducible apply IsN.mod | with_reducible apply IsN.min | with_reducible apply IsN.max | (with_reducible show (_ : Nat) ≤ _; omega) | exact IsN.toNat (by omega)))) (by omega) rfl (by first | with_reducible exact Nat.zero_add _ | with_reducible exact Nat.add_zero _ | exact rfl)) rfl ?_)
              go_step
              apply takeS 6 (by (repeat (first | with_reducible exact AtL.head | apply AtL.tail))) (by kernel_rfl) (by kernel_rfl) (by kernel_rfl) (by exact fun _ _ _ _ h => h) [11, 12, 13] (by kernel_rfl) (hS.sub (by (repeat (first | exact Sub.nil | with_reducible exact Sub.refl | (apply Sub.cons; (case p => (repeat (first | with_reducible exact Pull.head | apply Pull.tail)))) | apply Sub.skip))))
              case hfr => intro w hS; ((refine wpl (by kernel_rfl) ?_; apply wp_loadE hS 48 _ rfl _ _ rfl 2 (row_of rfl) _ _ _ _ _; (case hp => (repeat (first | with_reducible exact Pull.head | apply Pull.tail))); (case inst => infer_instance); (case he => with_reducible assumption); (case hq => exact rfl); (case hj => omega); refine put_move ?_; go_step)); refine wpList_nil ?_; exact ⟨rfl, rfl⟩
              case hd => rfl
              refine takeM 7 _ (by (repeat (first | with_reducible exact AtL.head | apply AtL.tail))) (by kernel_rfl) (by kernel_rfl) (by kernel_rfl) (by exact fun _ _ _ _ h => h) rfl ?_
              go_step
              refine takeM 8 _ (by (repeat (first | with_reducible exact AtL.head | apply AtL.tail))) (by kernel_rfl) (by kernel_rfl) (by kernel_rfl) (by exact fun _ _ _ _ h => h) rfl ?_
              go_step
              (refine takeV 9 _ (by (repeat (first | with_reducible exact AtL.head | apply AtL.tail))) (by kernel_rfl) (by kernel_rfl) (by kernel_rfl) (by exact fun _ _ _ _ h => h) (V.indexSl Try.underlying49 isz48 rfl rfl (by (repeat (first | exact IsN.auto | with_reducible apply IsN.add | with_reducible apply IsN.sub | with_reducible apply IsN.mul | with_reducible apply IsN.div | with_reducible apply IsN.mod | with_reducible apply IsN.min | with_reducible apply IsN.max | (with_reducible show (_ : Nat) ≤ _; omega) | exact IsN.toNat (by omega)))) (by omega) rfl (by first | with_reducible exact Nat.zero_add _ | with_reducible exact Nat.add_zero _ | exact rfl)) rfl ?_)
              go_step
              apply takeS 10 (by (repeat (first | with_reducible exact AtL.head | apply AtL.tail))) (by kernel_rfl) (by kernel_rfl) (by kernel_rfl) (by exact fun _ _ _ _ h => h) [11, 12, 13] (by kernel_rfl) (hS.sub (by (repeat (first | exact Sub.nil | with_reducible exact Sub.refl | (apply Sub.cons; (case p => (repeat (first | with_reducible exact Pull.head | apply Pull.tail)))) | apply Sub.skip))))
              case hfr => intro w hS; ((refine wpl (by kernel_rfl) ?_; apply wp_loadE hS 48 _ rfl _ _ rfl 2 (row_of rfl) _ _ _ _ _; (case hp => (repeat (first | with_reducible exact Pull.head | apply Pull.tail))); (case inst => infer_instance); (case he => with_reducible assumption); (case hq => exact rfl); (case hj => omega); refine put_move ?_; go_step)); refine wpList_nil ?_; exact ⟨rfl, rfl⟩
              case hd => rfl
              refine branch1 11 (by (repeat (first | with_reducible exact AtL.head | apply AtL.tail))) rfl (by kernel_rfl) ?_
              refine wp_callV (f := 20) rfl rfl Try.call20 (byWeight_any _ (elt P y) (elt P h)) ?_; rintro e w ⟨rfl, hE⟩; replace hS := hS.ext hE; clear hE; rw [HV.out]; refine ⟨_, rfl, ?_⟩
              refine ⟨fun h => absurd (by decide) h, ?_⟩
              refine drawn_move ?_
              go_step
              (refine takeV 12 _ (by (repeat (first | with_reducible exact AtL.head | apply AtL.tail))) (by kernel_rfl) (by kernel_rfl) (by kernel_rfl) (by exact fun _ _ _ _ h => h) (V.lss rfl rfl) rfl ?_)
              go_step
              (refine takeV 13 _ (by (repeat (first | with_reducible exact AtL.head | apply AtL.tail))) (by kernel_rfl) (by kernel_rfl) (by kernel_rfl) (by exact fun _ _ _ _ h => h) (V.notD rfl) rfl ?_)
              go_step
              refine drawn_done (by kernel_rfl) ?_ _
            by_cases hc2 : v < 0
            · skip
              repeat' (first
                | ((with_reducible show wpList _ _ _ (⟨_, .move _, _, _, _, _⟩ :: _) _ _); (first | go_big_want | go_step); go_step)
                | ((with_reducible show wpList _ _ _ (⟨_, .assign _, _, _, _, _⟩ :: _) _ _); (first | go_big_want | go_step); go_step)
                | ((fail_if_success (with_reducible show wpList _ _ _ (_ :: _) _ _)); go_step))
              go_roundg (h - st)
              case measure => omega
              case rel =>
                refine ⟨st, h, by omega, by omega, by omega, rfl, by go_num, HLO.out, fun k1 => ?_, hS⟩
                have := HV2.out.1 hc2
                rw [← hy]
                exact Int.le_of_lt this
            · skip
              repeat' (first
                | ((with_reducible show wpList _ _ _ (⟨some 173, .binOp .add _ _ _ _, _, _, _, _⟩ :: _) _ _); (refine wplV (.int _ (((h + 1 : Nat) : Int))) (V.as (V.addI rfl rfl (by omega)) (by omega)) rfl ?_; go_step))
                | ((with_reducible show wpList _ _ _ (⟨_, .move _, _, _, _, _⟩ :: _) _ _); (first | go_big_want | go_step); go_step)
                | ((with_reducible show wpList _ _ _ (⟨_, .assign _, _, _, _, _⟩ :: _) _ _); (first | go_big_want | go_step); go_step)
                | ((fail_if_success (with_reducible show wpList _ _ _ (_ :: _) _ _)); go_step))
              go_roundg (r - (h + 1))
              case measure => omega
              case rel =>
                refine ⟨h + 1, r, by omega, by omega, by omega, by go_num, rfl, fun k1 => ?_, HHI.out, hS⟩
                have := HV2.out
                rw [show T - (h + 1) = y by omega, Nat.add_sub_cancel]
                show (elt P h).w ≤ (elt P y).w
                omega
          · obtain rfl : st = r := by omega
            obtain ⟨en, hen⟩ : ∃ en, en = T - st := ⟨_, rfl⟩
            have HLO2 : Hid (a < st → m ≤ en → en < b → wk P (st - 1) ≤ wk P en) := fun k1 k2 k3 => by
              rw [hen]; exact HLO.out (by omega)
            have HHI2 : Hid (m < en → st < m → wk P (en - 1) ≤ wk P st) := fun k1 k2 => by
              rw [show en - 1 = T - 1 - st by omega]; exact HHI.out (by omega)
            clear HLO HHI
            repeat' (first
              | ((with_reducible show wpList _ _ _ (⟨_, .move _, _, _, _, _⟩ :: _) _ _); (first | go_big_want | go_step); go_step)
              | ((with_reducible show wpList _ _ _ (⟨some 151, .binOp .lss _ _ _ _, _, _, _, _⟩ :: _) _ _); (refine wplV _ (V.lss rfl rfl) (by kernel_rfl) ?_; go_step))
              | ((fail_if_success (with_reducible show wpList _ _ _ (_ :: _) _ _)); go_step))
            by_cases hrot : st < m ∧ m < en
            · have hrot1 := hrot.1
              have hrot2 := hrot.2
              repeat' (first
                | ((with_reducible show wpList _ _ _ (⟨some 177, .binOp .sub _ _ _ _, _, _, _, _⟩ :: _) _ _); (refine wplV (.int _ (((en : Nat) : Int))) (V.as (V.subI rfl rfl (by omega)) (by omega)) rfl ?_; go_step))
                | ((with_reducible show wpList _ _ _ (⟨_, .call ⟨.value (.func 35), _, _⟩, _, _, _, _⟩ :: _) _ _); refine wpl_call (f := 35) Try.call35 (by kernel_rfl) ?_; refine ⟨_, (rotate_any W _ _ rs' g n c st m en P hS Pull.head hrot1 hrot2 (by omega) hn byW), ?_⟩; rintro e w ⟨rfl, Q, hQ, hS2⟩; replace hS := hS2; clear hS2; refine ⟨_, rfl, ?_⟩; refine put_move ?_; go_step)
                | ((with_reducible show wpList _ _ _ (⟨_, .move _, _, _, _, _⟩ :: _) _ _); (first | go_big_want | go_step); go_step)
                | ((with_reducible show wpList _ _ _ (⟨_, .assign _, _, _, _, _⟩ :: _) _ _); (first | go_big_want | go_step); go_step)
                | ((with_reducible show wpList _ _ _ (⟨_, .pick _ _ _, _, _, _, _⟩ :: _) _ _); (refine wplPickT rfl (by kernel_rfl) ?_; go_step))
                | ((with_reducible show wpList _ _ _ (⟨some 180, .binOp .lss _ _ _ _, _, _, _, _⟩ :: _) _ _); (refine wplD _ (V.lss rfl rfl) (by kernel_rfl) (fun hB => ?_) (fun hB => ?_) <;> (try (have hF : False := (by omega); cases hF)) <;> go_step))
                | ((with_reducible show wpList _ _ _ (⟨some 184, .binOp .lss _ _ _ _, _, _, _, _⟩ :: _) _ _); (refine wplV _ (V.lss rfl rfl) (by kernel_rfl) ?_; go_step))
                | ((fail_if_success (with_reducible show wpList _ _ _ (_ :: _) _ _)); go_step))
              obtain ⟨s1, s2, s3, s4, hx⟩ := sym_parts HA1.out HA2.out ham hmb hmid (show en = mid + m - st by omega) (by omega) (by omega) (by omega) (by omega) (by omega) HLO2.out HHI2.out hQ
              have hQr := hQ.rg (show st ≤ m by omega) (show m ≤ en by omega)
              have hQl := hQr.len
              have HQR := hid (hQr.wide (show a ≤ st by omega) (show en ≤ b by omega) (by omega) (by omega))
              have HX := hid hx
              have S1 := hid s1
              have S2 := hid s2
              have S3 := hid s3
              have S4 := hid s4
              have g1 : a ≤ st := by omega
              have g2 : st ≤ mid := by omega
              have g3 : mid ≤ en := by omega
              have g4 : en ≤ b := by omega
              have g5 : mid - a ≤ N := by omega
              have g6 : b - mid ≤ N := by omega
              have g7 : a < mid := by omega
              have g8 : mid < b := by omega
              have hQn : Q.length = n := by omega
              clear hx s1 s2 s3 s4 hQ hQr HLO2 HHI2 HA1 HA2 F5 HS0a HS0b HR0a HR0b hen hlt hk hst hr f5 f1 f2 f3 f4 hT hmid e1 e2 hc h1' h2' hN hrot hQl hPl hp ham hmb
              by_cases hl : a < st ∧ st < mid
              · obtain ⟨hl1, hl2⟩ := hl
                have hb2 : mid ≤ n := by omega
                have HC := hid (fun (w : World) (hS : St W w (pks g n c Q :: rs')) => IH.out W w (pks g n c Q :: rs') rs' g n c a st mid Q g5 hS Pull.head hl1 hl2 hb2 hn S1.out S2.out)
                repeat' (first
                  | ((with_reducible show wpList _ _ _ (⟨_, .call ⟨.value (.func 33), _, _⟩, _, _, _, _⟩ :: _) _ _); refine wpl_call (f := 33) Try.call33 (by kernel_rfl) ?_; refine ⟨_, (HC.out _ hS), ?_⟩; rintro e w ⟨rfl, R, hR1, hR2, hS2⟩; replace hS := hS2; clear hS2; refine ⟨_, rfl, ?_⟩; refine put_move ?_; go_step)
                  | ((with_reducible show wpList _ _ _ (⟨_, .move _, _, _, _, _⟩ :: _) _ _); (first | go_big_want | go_step); go_step)
                  | ((with_reducible show wpList _ _ _ (⟨_, .pick _ _ _, _, _, _, _⟩ :: _) _ _); (refine wplPickT rfl (by kernel_rfl) ?_; go_step))
                  | ((with_reducible show wpList _ _ _ (⟨some 194, .binOp .lss _ _ _ _, _, _, _, _⟩ :: _) _ _); (refine wplD _ (V.lss rfl rfl) (by kernel_rfl) (fun hB => ?_) (fun hB => ?_) <;> (try (have hF : False := (by omega); cases hF)) <;> go_step))
                  | ((with_reducible show wpList _ _ _ (⟨some 198, .binOp .lss _ _ _ _, _, _, _, _⟩ :: _) _ _); (refine wplV _ (V.lss rfl rfl) (by kernel_rfl) ?_; go_step))
                  | ((fail_if_success (with_reducible show wpList _ _ _ (_ :: _) _ _)); go_step))
                have S5 := hid (S3.out.same (Q := R) fun x k1 k2 => hR2.out x (by omega))
                have S6 := hid (S4.out.same (Q := R) fun x k1 k2 => hR2.out x (by omega))
                have R1 := hid hR1
                have R2 := hid hR2
                clear hR1 hR2
                by_cases hr : mid < en ∧ en < b
                · obtain ⟨hr1, hr2⟩ := hr
                  have HC := hid (fun (w : World) (hS : St W w (pks g n c R :: rs')) => IH.out W w (pks g n c R :: rs') rs' g n c mid en b R g6 hS Pull.head hr1 hr2 hb hn S5.out S6.out)
                  repeat' (first
                    | ((with_reducible show wpList _ _ _ (⟨_, .call ⟨.value (.func 33), _, _⟩, _, _, _, _⟩ :: _) _ _); refine wpl_call (f := 33) Try.call33 (by kernel_rfl) ?_; refine ⟨_, (HC.out _ hS), ?_⟩; rintro e w ⟨rfl, Z, hZ1, hZ2, hS2⟩; replace hS := hS2; clear hS2; refine ⟨_, rfl, ?_⟩; refine put_move ?_; go_step)
                    | ((with_reducible show wpList _ _ _ (⟨_, .move _, _, _, _, _⟩ :: _) _ _); (first | go_big_want | go_step); go_step)
                    | ((with_reducible show wpList _ _ _ (⟨_, .pick _ _ _, _, _, _, _⟩ :: _) _ _); (refine wplPickT rfl (by kernel_rfl) ?_; go_step))
                    | ((with_reducible show wpList _ _ _ (⟨some 208, .binOp .lss _ _ _ _, _, _, _, _⟩ :: _) _ _); (refine wplD _ (V.lss rfl rfl) (by kernel_rfl) (fun hB => ?_) (fun hB => ?_) <;> (try (have hF : False := (by omega); cases hF)) <;> go_step))
                    | ((with_reducible show wpList _ _ _ (⟨some 212, .binOp .lss _ _ _ _, _, _, _, _⟩ :: _) _ _); (refine wplV _ (V.lss rfl rfl) (by kernel_rfl) ?_; go_step))
                    | ((fail_if_success (with_reducible show wpList _ _ _ (_ :: _) _ _)); go_step))
                  go_end0
                  obtain ⟨j1, j2⟩ := sym_join (show a ≤ mid by omega) (show mid ≤ b by omega) (show b ≤ Q.length by rw [hQn]; exact hb) HX.out R2.out hZ2 R1.out hZ1
                  exact ⟨rfl, Z, j1, HQR.out.trans j2, hS⟩
                · have hZ1 : Asc PkV.w mid b R := by
                    by_cases c1 : mid < en
                    · exact S5.out.sub (Nat.le_refl _) (by omega)
                    · exact S6.out.sub (by omega) (Nat.le_refl _)
                  repeat' (first
                    | go_skip
                    | ((with_reducible show wpList _ _ _ (⟨_, .move _, _, _, _, _⟩ :: _) _ _); (first | go_big_want | go_step); go_step)
                    | ((with_reducible show wpList _ _ _ (⟨_, .pick _ _ _, _, _, _, _⟩ :: _) _ _); first | (refine wplPickT rfl (by kernel_rfl) ?_; go_step) | (refine wplPickF rfl (by kernel_rfl) ?_; go_step))
                    | ((with_reducible show wpList _ _ _ (⟨some 208, .binOp .lss _ _ _ _, _, _, _, _⟩ :: _) _ _); (refine wplD _ (V.lss rfl rfl) (by kernel_rfl) (fun hB => ?_) (fun hB => ?_) <;> (try (have hF : False := (by omega); cases hF)) <;> go_step))
                    | ((with_reducible show wpList _ _ _ (⟨some 212, .binOp .lss _ _ _ _, _, _, _, _⟩ :: _) _ _); (refine wplV _ (V.lss rfl rfl) (by kernel_rfl) ?_; go_step))
                    | ((fail_if_success (with_reducible show wpList _ _ _ (_ :: _) _ _)); go_step))
                  all_goals
                    go_end0
                    obtain ⟨j1, j2⟩ := sym_join (show a ≤ mid by omega) (show mid ≤ b by omega) (show b ≤ Q.length by rw [hQn]; exact hb) HX.out R2.out (Rg.refl _ _ _) R1.out hZ1
                    exact ⟨rfl, R, j1, HQR.out.trans j2, hS⟩
              · obtain ⟨R, hRe⟩ : ∃ R, R = Q := ⟨Q, rfl⟩
                have hR2 : Rg a mid Q R := by rw [hRe]; exact Rg.refl _ _ _
                have hR1 : Asc PkV.w a mid R := by
                  rw [hRe]
                  by_cases c1 : a < st
                  · exact S1.out.sub (Nat.le_refl _) (by omega)
                  · exact S2.out.sub (by omega) (Nat.le_refl _)
                rw [← hRe] at hS
                repeat' (first
                  | go_skip
                  | ((with_reducible show wpList _ _ _ (⟨_, .move _, _, _, _, _⟩ :: _) _ _); (first | go_big_want | go_step); go_step)
                  | ((with_reducible show wpList _ _ _ (⟨_, .pick _ _ _, _, _, _, _⟩ :: _) _ _); (refine wplPickF rfl (by kernel_rfl) ?_; go_step))
                  | ((with_reducible show wpList _ _ _ (⟨some 194, .binOp .lss _ _ _ _, _, _, _, _⟩ :: _) _ _); (refine wplD _ (V.lss rfl rfl) (by kernel_rfl) (fun hB => ?_) (fun hB => ?_) <;> (try (have hF : False := (by omega); cases hF)) <;> go_step))
                  | ((fail_if_success (with_reducible show wpList _ _ _ (_ :: _) _ _)); go_step))
                all_goals
                  have S5 := hid (S3.out.same (Q := R) fun x k1 k2 => hR2.out x (by omega))
                  have S6 := hid (S4.out.same (Q := R) fun x k1 k2 => hR2.out x (by omega))
                  have R1 := hid hR1
                  have R2 := hid hR2
                  clear hR1 hR2
                  by_cases hr : mid < en ∧ en < b
                  · obtain ⟨hr1, hr2⟩ := hr
                    have HC := hid (fun (w : World) (hS : St W w (pks g n c R :: rs')) => IH.out W w (pks g n c R :: rs') rs' g n c mid en b R g6 hS Pull.head hr1 hr2 hb hn S5.out S6.out)
                    repeat' (first
                      | ((with_reducible show wpList _ _ _ (⟨_, .call ⟨.value (.func 33), _, _⟩, _, _, _, _⟩ :: _) _ _); refine wpl_call (f := 33) Try.call33 (by kernel_rfl) ?_; refine ⟨_, (HC.out _ hS), ?_⟩; rintro e w ⟨rfl, Z, hZ1, hZ2, hS2⟩; replace hS := hS2; clear hS2; refine ⟨_, rfl, ?_⟩; refine put_move ?_; go_step)
                      | ((with_reducible show wpList _ _ _ (⟨_, .move _, _, _, _, _⟩ :: _) _ _); (first | go_big_want | go_step); go_step)
                      | ((with_reducible show wpList _ _ _ (⟨_, .pick _ _ _, _, _, _, _⟩ :: _) _ _); (refine wplPickT rfl (by kernel_rfl) ?_; go_step))
                      | ((with_reducible show wpList _ _ _ (⟨some 208, .binOp .lss _ _ _ _, _, _, _, _⟩ :: _) _ _); (refine wplD _ (V.lss rfl rfl) (by kernel_rfl) (fun hB => ?_) (fun hB => ?_) <;> (try (have hF : False := (by omega); cases hF)) <;> go_step))
                      | ((with_reducible show wpList _ _ _ (⟨some 212, .binOp .lss _ _ _ _, _, _, _, _⟩ :: _) _ _); (refine wplV _ (V.lss rfl rfl) (by kernel_rfl) ?_; go_step))
                      | ((fail_if_success (with_reducible show wpList _ _ _ (_ :: _) _ _)); go_step))
                    go_end0
                    obtain ⟨j1, j2⟩ := sym_join (show a ≤ mid by omega) (show mid ≤ b by omega) (show b ≤ Q.length by rw [hQn]; exact hb) HX.out R2.out hZ2 R1.out hZ1
                    exact ⟨rfl, Z, j1, HQR.out.trans j2, hS⟩
                  · have hZ1 : Asc PkV.w mid b R := by
                      by_cases c1 : mid < en
                      · exact S5.out.sub (Nat.le_refl _) (by omega)
                      · exact S6.out.sub (by omega) (Nat.le_refl _)
                    repeat' (first
                      | go_skip
                      | ((with_reducible show wpList _ _ _ (⟨_, .move _, _, _, _, _⟩ :: _) _ _); (first | go_big_want | go_step); go_step)
                      | ((with_reducible show wpList _ _ _ (⟨_, .pick _ _ _, _, _, _, _⟩ :: _) _ _); first | (refine wplPickT rfl (by kernel_rfl) ?_; go_step) | (refine wplPickF rfl (by kernel_rfl) ?_; go_step))
                      | ((with_reducible show wpList _ _ _ (⟨some 208, .binOp .lss _ _ _ _, _, _, _, _⟩ :: _) _ _); (refine wplD _ (V.lss rfl rfl) (by kernel_rfl) (fun hB => ?_) (fun hB => ?_) <;> (try (have hF : False := (by omega); cases hF)) <;> go_step))
                      | ((with_reducible show wpList _ _ _ (⟨some 212, .binOp .lss _ _ _ _, _, _, _, _⟩ :: _) _ _); (refine wplV _ (V.lss rfl rfl) (by kernel_rfl) ?_; go_step))
                      | ((fail_if_success (with_reducible show wpList _ _ _ (_ :: _) _ _)); go_step))
                    all_goals
                      go_end0
                      obtain ⟨j1, j2⟩ := sym_join (show a ≤ mid by omega) (show mid ≤ b by omega) (show b ≤ Q.length by rw [hQn]; exact hb) HX.out R2.out (Rg.refl _ _ _) R1.out hZ1
                      exact ⟨rfl, R, j1, HQR.out.trans j2, hS⟩
            · obtain ⟨Q, hQe, hQ⟩ : ∃ Q, Q = P ∧ Rot st m en P Q := ⟨P, rfl, Rot.triv (by omega) (by omega) (by omega) (by omega)⟩
              rw [← hQe] at hS
              repeat' (first
                | ((with_reducible show wpList _ _ _ (⟨some 177, .binOp .sub _ _ _ _, _, _, _, _⟩ :: _) _ _); (refine wplV (.int _ (((en : Nat) : Int))) (V.as (V.subI rfl rfl (by omega)) (by omega)) rfl ?_; go_step))
                | go_skip
                | ((with_reducible show wpList _ _ _ (⟨_, .move _, _, _, _, _⟩ :: _) _ _); (first | go_big_want | go_step); go_step)
                | ((with_reducible show wpList _ _ _ (⟨_, .assign _, _, _, _, _⟩ :: _) _ _); (first | go_big_want | go_step); go_step)
                | ((with_reducible show wpList _ _ _ (⟨_, .pick _ _ _, _, _, _, _⟩ :: _) _ _); (refine wplPickF rfl (by kernel_rfl) ?_; go_step))
                | ((with_reducible show wpList _ _ _ (⟨some 180, .binOp .lss _ _ _ _, _, _, _, _⟩ :: _) _ _); (refine wplD _ (V.lss rfl rfl) (by kernel_rfl) (fun hB => ?_) (fun hB => ?_) <;> (try (have hF : False := (by omega); cases hF)) <;> go_step))
                | ((fail_if_success (with_reducible show wpList _ _ _ (_ :: _) _ _)); go_step))
              all_goals
                obtain ⟨s1, s2, s3, s4, hx⟩ := sym_parts HA1.out HA2.out ham hmb hmid (show en = mid + m - st by omega) (by omega) (by omega) (by omega) (by omega) (by omega) HLO2.out HHI2.out hQ
                have hQr := hQ.rg (show st ≤ m by omega) (show m ≤ en by omega)
                have hQl := hQr.len
                have HQR := hid (hQr.wide (show a ≤ st by omega) (show en ≤ b by omega) (by omega) (by omega))
                have HX := hid hx
                have S1 := hid s1
                have S2 := hid s2
                have S3 := hid s3
                have S4 := hid s4
                have g1 : a ≤ st := by omega
                have g2 : st ≤ mid := by omega
                have g3 : mid ≤ en := by omega
                have g4 : en ≤ b := by omega
                have g5 : mid - a ≤ N := by omega
                have g6 : b - mid ≤ N := by omega
                have g7 : a < mid := by omega
                have g8 : mid < b := by omega
                have hQn : Q.length = n := by omega
                clear hx s1 s2 s3 s4 hQ hQr HLO2 HHI2 HA1 HA2 F5 HS0a HS0b HR0a HR0b hen hlt hk hst hr f5 f1 f2 f3 f4 hT hmid e1 e2 hc h1' h2' hN hrot hQl hPl hp ham hmb
                by_cases hl : a < st ∧ st < mid
                · obtain ⟨hl1, hl2⟩ := hl
                  have hb2 : mid ≤ n := by omega
                  have HC := hid (fun (w : World) (hS : St W w (pks g n c Q :: rs')) => IH.out W w (pks g n c Q :: rs') rs' g n c a st mid Q g5 hS Pull.head hl1 hl2 hb2 hn S1.out S2.out)
                  repeat' (first
                    | ((with_reducible show wpList _ _ _ (⟨_, .call ⟨.value (.func 33), _, _⟩, _, _, _, _⟩ :: _) _ _); refine wpl_call (f := 33) Try.call33 (by kernel_rfl) ?_; refine ⟨_, (HC.out _ hS), ?_⟩; rintro e w ⟨rfl, R, hR1, hR2, hS2⟩; replace hS := hS2; clear hS2; refine ⟨_, rfl, ?_⟩; refine put_move ?_; go_step)
                    | ((with_reducible show wpList _ _ _ (⟨_, .move _, _, _, _, _⟩ :: _) _ _); (first | go_big_want | go_step); go_step)
                    | ((with_reducible show wpList _ _ _ (⟨_, .pick _ _ _, _, _, _, _⟩ :: _) _ _); (refine wplPickT rfl (by kernel_rfl) ?_; go_step))
                    | ((with_reducible show wpList _ _ _ (⟨some 194, .binOp .lss _ _ _ _, _, _, _, _⟩ :: _) _ _); (refine wplD _ (V.lss rfl rfl) (by kernel_rfl) (fun hB => ?_) (fun hB => ?_) <;> (try (have hF : False := (by omega); cases hF)) <;> go_step))
                    | ((with_reducible show wpList _ _ _ (⟨some 198, .binOp .lss _ _ _ _, _, _, _, _⟩ :: _) _ _); (refine wplV _ (V.lss rfl rfl) (by kernel_rfl) ?_; go_step))
                    | ((fail_if_success (with_reducible show wpList _ _ _ (_ :: _) _ _)); go_step))
                  have S5 := hid (S3.out.same (Q := R) fun x k1 k2 => hR2.out x (by omega))
                  have S6 := hid (S4.out.same (Q := R) fun x k1 k2 => hR2.out x (by omega))
                  have R1 := hid hR1
                  have R2 := hid hR2
                  clear hR1 hR2
                  by_cases hr : mid < en ∧ en < b
                  · obtain ⟨hr1, hr2⟩ := hr
                    have HC := hid (fun (w : World) (hS : St W w (pks g n c R :: rs')) => IH.out W w (pks g n c R :: rs') rs' g n c mid en b R g6 hS Pull.head hr1 hr2 hb hn S5.out S6.out)
                    repeat' (first
                      | ((with_reducible show wpList _ _ _ (⟨_, .call ⟨.value (.func 33), _, _⟩, _, _, _, _⟩ :: _) _ _); refine wpl_call (f := 33) Try.call33 (by kernel_rfl) ?_; refine ⟨_, (HC.out _ hS), ?_⟩; rintro e w ⟨rfl, Z, hZ1, hZ2, hS2⟩; replace hS := hS2; clear hS2; refine ⟨_, rfl, ?_⟩; refine put_move ?_; go_step)
                      | ((with_reducible show wpList _ _ _ (⟨_, .move _, _, _, _, _⟩ :: _) _ _); (first | go_big_want | go_step); go_step)
                      | ((with_reducible show wpList _ _ _ (⟨_, .pick _ _ _, _, _, _, _⟩ :: _) _ _); (refine wplPickT rfl (by kernel_rfl) ?_; go_step))
                      | ((with_reducible show wpList _ _ _ (⟨some 208, .binOp .lss _ _ _ _, _, _, _, _⟩ :: _) _ _); (refine wplD _ (V.lss rfl rfl) (by kernel_rfl) (fun hB => ?_) (fun hB => ?_) <;> (try (have hF : False := (by omega); cases hF)) <;> go_step))
                      | ((with_reducible show wpList _ _ _ (⟨some 212, .binOp .lss _ _ _ _, _, _, _, _⟩ :: _) _ _); (refine wplV _ (V.lss rfl rfl) (by kernel_rfl) ?_; go_step))
                      | ((fail_if_success (with_reducible show wpList _ _ _ (_ :: _) _ _)); go_step))
                    go_end0
                    obtain ⟨j1, j2⟩ := sym_join (show a ≤ mid by omega) (show mid ≤ b by omega) (show b ≤ Q.length by rw [hQn]; exact hb) HX.out R2.out hZ2 R1.out hZ1
                    exact ⟨rfl, Z, j1, HQR.out.trans j2, hS⟩
                  · have hZ1 : Asc PkV.w mid b R := by
                      by_cases c1 : mid < en
                      · exact S5.out.sub (Nat.le_refl _) (by omega)
                      · exact S6.out.sub (by omega) (Nat.le_refl _)
                    repeat' (first
                      | go_skip
                      | ((with_reducible show wpList _ _ _ (⟨_, .move _, _, _, _, _⟩ :: _) _ _); (first | go_big_want | go_step); go_step)
                      | ((with_reducible show wpList _ _ _ (⟨_, .pick _ _ _, _, _, _, _⟩ :: _) _ _); first | (refine wplPickT rfl (by kernel_rfl) ?_; go_step) | (refine wplPickF rfl (by kernel_rfl) ?_; go_step))
                      | ((with_reducible show wpList _ _ _ (⟨some 208, .binOp .lss _ _ _ _, _, _, _, _⟩ :: _) _ _); (refine wplD _ (V.lss rfl rfl) (by kernel_rfl) (fun hB => ?_) (fun hB => ?_) <;> (try (have hF : False := (by omega); cases hF)) <;> go_step))
                      | ((with_reducible show wpList _ _ _ (⟨some 212, .binOp .lss _ _ _ _, _, _, _, _⟩ :: _) _ _); (refine wplV _ (V.lss rfl rfl) (by kernel_rfl) ?_; go_step))
                      | ((fail_if_success (with_reducible show wpList _ _ _ (_ :: _) _ _)); go_step))
                    all_goals
                      go_end0
                      obtain ⟨j1, j2⟩ := sym_join (show a ≤ mid by omega) (show mid ≤ b by omega) (show b ≤ Q.length by rw [hQn]; exact hb) HX.out R2.out (Rg.refl _ _ _) R1.out hZ1
                      exact ⟨rfl, R, j1, HQR.out.trans j2, hS⟩
                · obtain ⟨R, hRe⟩ : ∃ R, R = Q := ⟨Q, rfl⟩
                  have hR2 : Rg a mid Q R := by rw [hRe]; exact Rg.refl _ _ _
                  have hR1 : Asc PkV.w a mid R := by
                    rw [hRe]
                    by_cases c1 : a < st
                    · exact S1.out.sub (Nat.le_refl _) (by omega)
                    · exact S2.out.sub (by omega) (Nat.le_refl _)
                  rw [← hRe] at hS
                  repeat' (first
                    | go_skip
                    | ((with_reducible show wpList _ _ _ (⟨_, .move _, _, _, _, _⟩ :: _) _ _); (first | go_big_want | go_step); go_step)
                    | ((with_reducible show wpList _ _ _ (⟨_, .pick _ _ _, _, _, _, _⟩ :: _) _ _); first | (refine wplPickT rfl (by kernel_rfl) ?_; go_step) | (refine wplPickF rfl (by kernel_rfl) ?_; go_step))
                    | ((with_reducible show wpList _ _ _ (⟨some 194, .binOp .lss _ _ _ _, _, _, _, _⟩ :: _) _ _); (refine wplD _ (V.lss rfl rfl) (by kernel_rfl) (fun hB => ?_) (fun hB => ?_) <;> (try (have hF : False := (by omega); cases hF)) <;> go_step))
                    | ((with_reducible show wpList _ _ _ (⟨some 198, .binOp .lss _ _ _ _, _, _, _, _⟩ :: _) _ _); (refine wplV _ (V.lss rfl rfl) (by kernel_rfl) ?_; go_step))
                    | ((fail_if_success (with_reducible show wpList _ _ _ (_ :: _) _ _)); go_step))
                  all_goals
                    have S5 := hid (S3.out.same (Q := R) fun x k1 k2 => hR2.out x (by omega))
                    have S6 := hid (S4.out.same (Q := R) fun x k1 k2 => hR2.out x (by omega))
                    have R1 := hid hR1
                    have R2 := hid hR2
                    clear hR1 hR2
                    by_cases hr : mid < en ∧ en < b
                    · obtain ⟨hr1, hr2⟩ := hr
                      have HC := hid (fun (w : World) (hS : St W w (pks g n c R :: rs')) => IH.out W w (pks g n c R :: rs') rs' g n c mid en b R g6 hS Pull.head hr1 hr2 hb hn S5.out S6.out)
                      repeat' (first
                        | ((with_reducible show wpList _ _ _ (⟨_, .call ⟨.value (.func 33), _, _⟩, _, _, _, _⟩ :: _) _ _); refine wpl_call (f := 33) Try.call33 (by kernel_rfl) ?_; refine ⟨_, (HC.out _ hS), ?_⟩; rintro e w ⟨rfl, Z, hZ1, hZ2, hS2⟩; replace hS := hS2; clear hS2; refine ⟨_, rfl, ?_⟩; refine put_move ?_; go_step)
                        | ((with_reducible show wpList _ _ _ (⟨_, .move _, _, _, _, _⟩ :: _) _ _); (first | go_big_want | go_step); go_step)
                        | ((with_reducible show wpList _ _ _ (⟨_, .pick _ _ _, _, _, _, _⟩ :: _) _ _); (refine wplPickT rfl (by kernel_rfl) ?_; go_step))
                        | ((with_reducible show wpList _ _ _ (⟨some 208, .binOp .lss _ _ _ _, _, _, _, _⟩ :: _) _ _); (refine wplD _ (V.lss rfl rfl) (by kernel_rfl) (fun hB => ?_) (fun hB => ?_) <;> (try (have hF : False := (by omega); cases hF)) <;> go_step))
                        | ((with_reducible show wpList _ _ _ (⟨some 212, .binOp .lss _ _ _ _, _, _, _, _⟩ :: _) _ _); (refine wplV _ (V.lss rfl rfl) (by kernel_rfl) ?_; go_step))
                        | ((fail_if_success (with_reducible show wpList _ _ _ (_ :: _) _ _)); go_step))
                      go_end0
                      obtain ⟨j1, j2⟩ := sym_join (show a ≤ mid by omega) (show mid ≤ b by omega) (show b ≤ Q.length by rw [hQn]; exact hb) HX.out R2.out hZ2 R1.out hZ1
                      exact ⟨rfl, Z, j1, HQR.out.trans j2, hS⟩
                    · have hZ1 : Asc PkV.w mid b R := by
                        by_cases c1 : mid < en
                        · exact S5.out.sub (Nat.le_refl _) (by omega)
                        · exact S6.out.sub (by omega) (Nat.le_refl _)
                      repeat' (first
                        | go_skip
                        | ((with_reducible show wpList _ _ _ (⟨_, .move _, _, _, _, _⟩ :: _) _ _); (first | go_big_want | go_step); go_step)
                        | ((with_reducible show wpList _ _ _ (⟨_, .pick _ _ _, _, _, _, _⟩ :: _) _ _); first | (refine wplPickT rfl (by kernel_rfl) ?_; go_step) | (refine wplPickF rfl (by kernel_rfl) ?_; go_step))
                        | ((with_reducible show wpList _ _ _ (⟨some 208, .binOp .lss _ _ _ _, _, _, _, _⟩ :: _) _ _); (refine wplD _ (V.lss rfl rfl) (by kernel_rfl) (fun hB => ?_) (fun hB => ?_) <;> (try (have hF : False := (by omega); cases hF)) <;> go_step))
                        | ((with_reducible show wpList _ _ _ (⟨some 212, .binOp .lss _ _ _ _, _, _, _, _⟩ :: _) _ _); (refine wplV _ (V.lss rfl rfl) (by kernel_rfl) ?_; go_step))
                        | ((fail_if_success (with_reducible show wpList _ _ _ (_ :: _) _ _)); go_step))
                      all_goals
                        go_end0
                        obtain ⟨j1, j2⟩ := sym_join (show a ≤ mid by omega) (show mid ≤ b by omega) (show b ≤ Q.length by rw [hQn]; exact hb) HX.out R2.out (Rg.refl _ _ _) R1.out hZ1
                        exact ⟨rfl, R, j1, HQR.out.trans j2, hS⟩
end Go.Proofs.Ytembekkanggciaa
