/- SplitBack: pieces and marks are all that there was. -/
import Derived.Test.YtlchbcfiefpjhaaDoorStuffKeep
namespace Go.Proofs.YtlchbcfiefpjhaaDoor
open Go.ChangeShapes Go.WideShapes Go.ChangeAt Go.RowKit
set_option linter.unusedVariables false
/-- The first k pieces, with the marks between them. -/
def jn (q : List Int) (r : List (Int × List Int)) : Nat → List Int
  | 0 => []
  | k + 1 => q ++ (r.take k).flatMap fun y => 255 :: y.1 :: y.2
theorem jn_succ (q : List Int) (r : List (Int × List Int)) (j : Nat) (h : j < r.length) : jn q r (j + 2) = (jn q r (j + 1) ++ [255, r[j].1]) ++ r[j].2 := by
  simp only [jn]
  rw [List.take_succ_eq_append_getElem h, List.flatMap_append]
  simp
theorem jn_pre (q : List Int) (r : List (Int × List Int)) : ∀ k, (jn q r k).length ≤ (q ++ r.flatMap fun y => 255 :: y.1 :: y.2).length
  | 0 => by simp [jn]
  | k + 1 => by
    simp only [jn, List.length_append]
    have : (r.flatMap fun y => 255 :: y.1 :: y.2) = (r.take k).flatMap (fun y => 255 :: y.1 :: y.2) ++ (r.drop k).flatMap fun y => 255 :: y.1 :: y.2 := by
      rw [← List.flatMap_append, List.take_append_drop]
    rw [this, List.length_append]
    omega
theorem pcs_nil {W w : World} {pcs : List Pc} {rs rs' : List Res} (h : St W w rs) (p : Pull (star (pcs.map Pc.res)) rs rs') {x : Pc} (hx : x ∈ pcs) : x.ad = none → x.c = 0 := by
  obtain ⟨s, hs⟩ := h.starGet p (List.mem_map.2 ⟨x, hx, rfl⟩)
  exact own_nil hs (show Pull (own 5 1 x.ad x.xs.length x.c (x.xs.map (Value.int .u8))) (Pc.res x :: s) s from .head)
set_option maxRecDepth 100000 in
set_option maxHeartbeats 8000000 in
theorem SplitBack_walk {H : Type} {enc : TypeId × Value → H} {d0 : DataW H} {p0 : List MemPlace} {v0 : Value} {base : Nat} (W : World)
    (o0 : Value.okWide Tryd.prog W .any base 22 v0) (h0 : DataW.Trod enc Tryd.prog W 0 (fun _ => true) true 22 v0 d0 p0) (lt0 : ∀ x ∈ p0, x.block < W.heap.size)
    (hbulk : Rows.uptoSmall H [d0] = true) (hsh : W.ShapedOpen Tryd.prog) :
    Calls Tryd.prog 7 #[v0] W fun e w' => e = .returned (.bool true) ∧ Ext W w' := by
  obtain ⟨n, xs, ad, c, rfl, hs, hr, hnil, hb⟩ := op_bytesI o0 h0
  have hbk := bulk_of hbulk (d := d0) (by simp)
  have hln : xs.length = n := by have := hs.1; simpa using this
  have hml : ∃ m, W.cell? ⟨0, 0, none⟩ = some (.int .i64 m) := Tryd.laysM185.s1_3 W hsh
  have HS := hid hs
  have HML : Veil3 _ := ⟨hml⟩
  have HP := hid (fun (w : World) (hE : Ext W w) => split_any w ad n c xs (hs.ext hE) hr (by omega))
  have hS := St.start W
  obtain ⟨T, hT⟩ : ∃ T, spf xs [] [] [] = T := ⟨_, rfl⟩
  rw [hT] at HP
  cases T with
  | none =>
    clear hr hnil o0 h0 lt0 hbulk hsh hml hs hT
    go_enter Tryd.func7, Tryd.ntmps7
    repeat' (first
      | ((with_reducible show wpList _ _ _ (⟨_, .call ⟨.value (.func 9), _, _⟩, _, _, _, _⟩ :: _) _ _); refine wpl_call (f := 9) Tryd.call9 (by kernel_rfl) ?_; refine ⟨_, (stuffed_any _), ?_⟩; rintro e w ⟨rfl, hE2⟩; replace hS := hS.ext hE2; clear hE2; refine ⟨_, rfl, ?_⟩; refine put_move ?_; go_step)
      | ((with_reducible show wpList _ _ _ (⟨_, .call ⟨.value (.func 12), _, _⟩, _, _, _, _⟩ :: _) _ _); refine wpl_call (f := 12) Tryd.call12 (by kernel_rfl) ?_; refine ⟨_, (HP.out _ hS.1), ?_⟩; rintro e w ⟨hR1, -⟩; obtain ⟨rfl, hE2⟩ := hR1 rfl; clear hR1; replace hS := hS.ext hE2; clear hE2; refine ⟨_, rfl, ?_⟩; refine put_move ?_; go_step)
      | go_skip
      | go_big_skip
      | ((with_reducible show wpList _ _ _ (⟨_, .move _, _, _, _, _⟩ :: _) _ _); (first | go_big_want | go_step); go_step)
      | ((with_reducible show wpList _ _ _ (⟨_, .assign _, _, _, _, _⟩ :: _) _ _); (first | go_big_want | go_step); go_step)
      | ((with_reducible show wpList _ _ _ (⟨_, .pick _ _ _, _, _, _, _⟩ :: _) _ _); first | (refine wplPickT rfl (by kernel_rfl) ?_; go_step) | (refine wplPickF rfl (by kernel_rfl) ?_; go_step))
      | ((with_reducible show wpList _ _ _ (⟨some 12, .unOp .not _ _, _, _, _, _⟩ :: _) _ _); first | (refine wplV _ (V.notD rfl) (by kernel_rfl) ?_; go_step) | (refine wplV _ (V.not rfl) (by kernel_rfl) ?_; go_step))
      | ((with_reducible show wpList _ _ _ (⟨some 16, .extract _ _, _, _, _, _⟩ :: _) _ _); first | (refine wplV _ (V.extract rfl rfl) (by kernel_rfl) ?_; go_step))
      | ((with_reducible show wpList _ _ _ (⟨some 17, .extract _ _, _, _, _, _⟩ :: _) _ _); first | (refine wplV _ (V.extract rfl rfl) (by kernel_rfl) ?_; go_step))
      | ((with_reducible show wpList _ _ _ (⟨some 18, .extract _ _, _, _, _, _⟩ :: _) _ _); first | (refine wplV _ (V.extract rfl rfl) (by kernel_rfl) ?_; go_step))
      | ((fail_if_success (with_reducible show wpList _ _ _ (_ :: _) _ _)); go_step))
    repeat' (first
      | go_skip
      | go_big_skip
      | ((with_reducible show wpList _ _ _ (⟨_, .move _, _, _, _, _⟩ :: _) _ _); (first | go_big_want | go_step); go_step)
      | ((with_reducible show wpList _ _ _ (⟨_, .assign _, _, _, _, _⟩ :: _) _ _); (first | go_big_want | go_step); go_step)
      | ((with_reducible show wpList _ _ _ (⟨_, .pick _ _ _, _, _, _, _⟩ :: _) _ _); first | (refine wplPickT rfl (by kernel_rfl) ?_; go_step) | (refine wplPickF rfl (by kernel_rfl) ?_; go_step))
      | ((with_reducible show wpList _ _ _ (⟨some 20, .binOp .neq 27 _ _ _, _, _, _, _⟩ :: _) _ _); first | (refine wplV _ (V.neq rfl rfl) (by kernel_rfl) ?_; go_step))
      | ((with_reducible show wpList _ _ _ (⟨some 22, .call ⟨.builtin .len, _, _⟩, _, _, _, _⟩ :: _) _ _); first | (refine wplV _ (V.len Tryd.underlying30 rfl) (by kernel_rfl) ?_; go_step))
      | ((with_reducible show wpList _ _ _ (⟨some 24, .call ⟨.builtin .len, _, _⟩, _, _, _, _⟩ :: _) _ _); first | (refine wplV _ (V.len Tryd.underlying31 rfl) (by kernel_rfl) ?_; go_step))
      | ((with_reducible show wpList _ _ _ (⟨some 25, .binOp .add _ _ _ _, _, _, _, _⟩ :: _) _ _); first | (refine wplV _ (V.addI rfl rfl (by omega)) (by kernel_rfl) ?_; go_step) | (refine wplV _ (V.addR (by decide) rfl rfl) (by kernel_rfl) ?_; go_step))
      | ((with_reducible show wpList _ _ _ (⟨some 26, .binOp .eql 3 _ _ _, _, _, _, _⟩ :: _) _ _); first | (refine wplV _ (V.eql rfl rfl) (by kernel_rfl) ?_; go_step))
      | ((fail_if_success (with_reducible show wpList _ _ _ (_ :: _) _ _)); go_step))
    go_ret
    exact ⟨rfl, hS.1⟩
  | some T =>
    obtain ⟨ps, ms⟩ := T
    obtain ⟨q, r, e1, e2, e3, ⟨cq, e4⟩, e5⟩ := spf_spec xs.length xs _ _ _ _ _ (Nat.le_refl _) hT
    simp only [List.nil_append] at e1 e2
    have hjl := jn_pre q r
    rw [← e3, hln] at hjl
    have hpr : ∀ p ∈ ps, (∃ cc, p = stf cc) ∧ ∀ x ∈ p, 0 ≤ x ∧ x < 256 := fun p hp => by
      rw [e1] at hp
      rcases List.mem_cons.1 hp with rfl | hp
      · exact ⟨⟨cq, e4⟩, fun x hx => hr x (by rw [e3]; exact List.mem_append_left _ hx)⟩
      · obtain ⟨y, hy, rfl⟩ := List.mem_map.1 hp
        exact ⟨(e5 y hy).2.2, fun x hx => hr x (by rw [e3]; exact List.mem_append_right _ (List.mem_flatMap.2 ⟨y, hy, by simp [hx]⟩))⟩
    have hmr : ∀ j (h : j < r.length), 1 ≤ r[j].1 ∧ r[j].1 ≤ 254 := fun j h => by
      have h1 := e5 r[j] (List.getElem_mem h)
      have h2 := hr r[j].1 (by rw [e3]; exact List.mem_append_right _ (List.mem_flatMap.2 ⟨r[j], List.getElem_mem h, by simp⟩))
      omega
    have hps : ps.length = r.length + 1 := by rw [e1]; simp
    have hms : ms.length = r.length := by rw [e2]; simp
    obtain ⟨R, hR⟩ : ∃ R, r.length = R := ⟨_, rfl⟩
    rw [hR] at hps hms
    have HR := hid hR
    have HMR := hid hmr
    have HPR := hid hpr
    have HJL := hid hjl
    have E1 := hid e1
    have E2 := hid e2
    have E3 := hid e3
    clear hr hnil o0 h0 lt0 hbulk hsh hml hs hT hR hmr hpr hjl e1 e2 e3 e4 e5
    have hRn : R + 1 ≤ n + 1 := by
      have h1 := HJL.out (R + 1)
      have h2 : ∀ l : List (Int × List Int), l.length ≤ (l.flatMap fun y => 255 :: y.1 :: y.2).length := fun l => by
        induction l with
        | nil => exact Nat.le_refl _
        | cons y l ih => rw [List.flatMap_cons, List.length_append, List.length_cons, List.length_cons, List.length_cons]; omega
      have h3 := h2 r
      rw [HR.out] at h3
      simp only [jn, List.length_append] at h1
      rw [List.take_of_length_le (by rw [HR.out]; exact Nat.le_refl _)] at h1
      omega
    go_enter Tryd.func7, Tryd.ntmps7
    repeat' (first
      | ((with_reducible show wpList _ _ _ (⟨_, .call ⟨.value (.func 9), _, _⟩, _, _, _, _⟩ :: _) _ _); refine wpl_call (f := 9) Tryd.call9 (by kernel_rfl) ?_; refine ⟨_, (stuffed_any _), ?_⟩; rintro e w ⟨rfl, hE2⟩; replace hS := hS.ext hE2; clear hE2; refine ⟨_, rfl, ?_⟩; refine put_move ?_; go_step)
      | ((with_reducible show wpList _ _ _ (⟨_, .call ⟨.value (.func 12), _, _⟩, _, _, _, _⟩ :: _) _ _); refine wpl_call (f := 12) Tryd.call12 (by kernel_rfl) ?_; refine ⟨_, (HP.out _ hS.1), ?_⟩; rintro e w ⟨-, hR1⟩; obtain ⟨pcs, ao, am, co, cm, lo, lm, hlo, hlm, hpc, rfl, hS2⟩ := hR1 ps ms rfl; clear hR1; rw [hps] at hlo; rw [hms] at hlm; subst hlo; subst hlm; replace hS := hS.call hS2; clear hS2; simp only [List.cons_append, List.nil_append] at hS; refine ⟨_, rfl, ?_⟩; refine put_move ?_; go_step)
      | go_skip
      | go_big_skip
      | ((with_reducible show wpList _ _ _ (⟨_, .move _, _, _, _, _⟩ :: _) _ _); (first | go_big_want | go_step); go_step)
      | ((with_reducible show wpList _ _ _ (⟨_, .assign _, _, _, _, _⟩ :: _) _ _); (first | go_big_want | go_step); go_step)
      | ((with_reducible show wpList _ _ _ (⟨_, .pick _ _ _, _, _, _, _⟩ :: _) _ _); first | (refine wplPickT rfl (by kernel_rfl) ?_; go_step) | (refine wplPickF rfl (by kernel_rfl) ?_; go_step))
      | ((with_reducible show wpList _ _ _ (⟨some 12, .unOp .not _ _, _, _, _, _⟩ :: _) _ _); first | (refine wplV _ (V.notD rfl) (by kernel_rfl) ?_; go_step) | (refine wplV _ (V.not rfl) (by kernel_rfl) ?_; go_step))
      | ((with_reducible show wpList _ _ _ (⟨some 16, .extract _ _, _, _, _, _⟩ :: _) _ _); first | (refine wplV _ (V.extract rfl rfl) (by kernel_rfl) ?_; go_step))
      | ((with_reducible show wpList _ _ _ (⟨some 17, .extract _ _, _, _, _, _⟩ :: _) _ _); first | (refine wplV _ (V.extract rfl rfl) (by kernel_rfl) ?_; go_step))
      | ((with_reducible show wpList _ _ _ (⟨some 18, .extract _ _, _, _, _, _⟩ :: _) _ _); first | (refine wplV _ (V.extract rfl rfl) (by kernel_rfl) ?_; go_step))
      | ((fail_if_success (with_reducible show wpList _ _ _ (_ :: _) _ _)); go_step))
    repeat' (first
      | go_skip
      | go_big_skip
      | ((with_reducible show wpList _ _ _ (⟨_, .move _, _, _, _, _⟩ :: _) _ _); (first | go_big_want | go_step); go_step)
      | ((with_reducible show wpList _ _ _ (⟨_, .assign _, _, _, _, _⟩ :: _) _ _); (first | go_big_want | go_step); go_step)
      | ((with_reducible show wpList _ _ _ (⟨_, .pick _ _ _, _, _, _, _⟩ :: _) _ _); first | (refine wplPickT rfl (by kernel_rfl) ?_; go_step) | (refine wplPickF rfl (by kernel_rfl) ?_; go_step))
      | ((with_reducible show wpList _ _ _ (⟨some 20, .binOp .neq 27 _ _ _, _, _, _, _⟩ :: _) _ _); first | (refine wplV _ (V.neq rfl rfl) (by kernel_rfl) ?_; go_step))
      | ((fail_if_success (with_reducible show wpList _ _ _ (_ :: _) _ _)); go_step))
    repeat' (first
      | ((with_reducible show wpList _ _ _ (⟨some 31, .binOp .add _ _ _ _, _, _, _, _⟩ :: _) _ _); first | (refine wplV (.int _ (((lm + 1 : Nat) : Int))) (V.as (V.addI rfl rfl (by omega)) (by omega)) rfl ?_; go_step) | (refine wplV (.int _ (((lm + 1 : Nat) : Int))) (V.as (V.addR (by decide) rfl rfl) (by omega)) rfl ?_; go_step))
      | go_skip
      | go_big_skip
      | ((with_reducible show wpList _ _ _ (⟨_, .move _, _, _, _, _⟩ :: _) _ _); (first | go_big_want | go_step); go_step)
      | ((with_reducible show wpList _ _ _ (⟨_, .assign _, _, _, _, _⟩ :: _) _ _); (first | go_big_want | go_step); go_step)
      | ((with_reducible show wpList _ _ _ (⟨_, .pick _ _ _, _, _, _, _⟩ :: _) _ _); first | (refine wplPickT rfl (by kernel_rfl) ?_; go_step) | (refine wplPickF rfl (by kernel_rfl) ?_; go_step))
      | ((with_reducible show wpList _ _ _ (⟨some 28, .call ⟨.builtin .len, _, _⟩, _, _, _, _⟩ :: _) _ _); first | (refine wplV _ (V.len Tryd.underlying30 rfl) (by kernel_rfl) ?_; go_step))
      | ((with_reducible show wpList _ _ _ (⟨some 30, .call ⟨.builtin .len, _, _⟩, _, _, _, _⟩ :: _) _ _); first | (refine wplV _ (V.len Tryd.underlying31 rfl) (by kernel_rfl) ?_; go_step))
      | ((with_reducible show wpList _ _ _ (⟨some 31, .binOp .add _ _ _ _, _, _, _, _⟩ :: _) _ _); first | (refine wplV _ (V.addI rfl rfl (by omega)) (by kernel_rfl) ?_; go_step) | (refine wplV _ (V.addR (by decide) rfl rfl) (by kernel_rfl) ?_; go_step))
      | ((with_reducible show wpList _ _ _ (⟨some 32, .binOp .neq 3 _ _ _, _, _, _, _⟩ :: _) _ _); first | (refine wplV _ (V.neq rfl rfl) (by kernel_rfl) ?_; go_step))
      | ((fail_if_success (with_reducible show wpList _ _ _ (_ :: _) _ _)); go_step))
    obtain ⟨bo, rfl⟩ := own_some hS (by (repeat (first | with_reducible exact Pull.head | apply Pull.tail))) (by omega)
    have hpl : pcs.length = lm + 1 := by have := congrArg List.length hpc; simpa [hps] using this
    have HPC := hid hpc
    clear hpc
    repeat' (first
      | go_skip
      | go_big_skip
      | ((with_reducible show wpList _ _ _ (⟨_, .move _, _, _, _, _⟩ :: _) _ _); (first | go_big_want | go_step); go_step)
      | ((with_reducible show wpList _ _ _ (⟨_, .assign _, _, _, _, _⟩ :: _) _ _); (first | go_big_want | go_step); go_step)
      | ((with_reducible show wpList _ _ _ (⟨_, .pick _ _ _, _, _, _, _⟩ :: _) _ _); first | (refine wplPickT rfl (by kernel_rfl) ?_; go_step) | (refine wplPickF rfl (by kernel_rfl) ?_; go_step))
      | ((with_reducible show wpList _ _ _ (⟨some 34, .call ⟨.builtin .len, _, _⟩, _, _, _, _⟩ :: _) _ _); first | (refine wplV _ (V.len Tryd.underlying30 rfl) (by kernel_rfl) ?_; go_step))
      | ((fail_if_success (with_reducible show wpList _ _ _ (_ :: _) _ _)); go_step))
    go_loopg [6, 35] (lm + 1) (fun gk av iv w => ∃ (k L : Nat) (aa : Option Addr) (ca : Nat), gk + k = lm + 1 ∧ L = (jn q r k).length ∧ iv = .int .i64 k ∧ av = .slice aa L ca ∧
      St W w [own 22 1 (some ⟨bo, 0, none⟩) (lm + 1) co (pcs.map Pc.val), own 3 1 am lm cm (ms.map (Value.int .i64)), own 5 1 aa L ca ((jn q r k).map (Value.int .u8)), star (pcs.map Pc.res)])
    case atStart =>
      have h2 := (hS.nilk 5 1 .u8).sub (xs := [own 22 1 (some ⟨bo, 0, none⟩) (lm + 1) co (pcs.map Pc.val), own 3 1 am lm cm (ms.map (Value.int .i64)), own 5 1 none 0 0 (([] : List Int).map (Value.int .u8)), star (pcs.map Pc.res)]) (by (repeat (first | exact Sub.nil | with_reducible exact Sub.refl | (apply Sub.cons; (case p => (repeat (first | with_reducible exact Pull.head | apply Pull.tail)))) | apply Sub.skip)))
      exact ⟨0, 0, none, 0, by omega, rfl, rfl, rfl, h2⟩
    case round =>
      clear hS
      obtain ⟨k, L, aa, ca, hk, hL, rfl, rfl, hS⟩ := hrel
      by_cases hlt : k < lm + 1
      · have hjk := HJL.out (k + 1)
        have hjk0 := HJL.out k
        rw [← hL] at hjk0
        obtain ⟨pc, hpcv⟩ : ∃ pc, pcs[k]? = some pc := ⟨_, List.getElem?_eq_getElem (by omega)⟩
        have hpm : pc ∈ pcs := List.mem_of_getElem? hpcv
        have hg0 : (pcs.map Pc.val)[k]? = some (.slice pc.ad pc.xs.length pc.c) := by rw [List.getElem?_map, hpcv]; rfl
        have hpxs : ps[k]? = some pc.xs := by rw [← HPC.out, List.getElem?_map, hpcv]; rfl
        obtain ⟨⟨cc, hcc⟩, hrng⟩ := HPR.out pc.xs (List.mem_of_getElem? hpxs)
        have hnl := pcs_nil hS (pcs := pcs) (by (repeat (first | with_reducible exact Pull.head | apply Pull.tail))) hpm
        have HPG : Hid (∀ w rs rs', St W w rs → Pull (star (pcs.map Pc.res)) rs rs' → Sl w 1 (.slice pc.ad pc.xs.length pc.c) pc.xs.length (pc.xs.map (Value.int .u8))) := fun w rs rs' h p => pcs_get h p hpm
        have hnx : k = 0 ∧ jn q r (k + 1) = jn q r k ++ pc.xs ∨ ∃ j, k = j + 1 ∧ j < lm ∧ 1 ≤ nth ms j ∧ nth ms j ≤ 254 ∧ jn q r (k + 1) = (jn q r k ++ [255, nth ms j]) ++ pc.xs := by
          rw [E1.out] at hpxs
          cases k with
          | zero => exact .inl ⟨rfl, by simp at hpxs; simp [jn, hpxs]⟩
          | succ j =>
            have hj : j < r.length := by rw [HR.out]; omega
            refine .inr ⟨j, rfl, by omega, ?_⟩
            have e : nth ms j = r[j].1 := by rw [E2.out]; simp [nth, List.getD, hj]
            rw [e]
            obtain ⟨a1, a2⟩ := HMR.out j hj
            refine ⟨a1, a2, ?_⟩
            simp only [List.getElem?_cons_succ, List.getElem?_map, List.getElem?_eq_getElem hj, Option.map_some, Option.some.injEq] at hpxs
            rw [jn_succ q r j hj, hpxs]
        obtain ⟨px, hpx⟩ : ∃ px, pc.xs = px := ⟨_, rfl⟩
        obtain ⟨pa, hpa⟩ : ∃ pa, pc.ad = pa := ⟨_, rfl⟩
        obtain ⟨pcc, hpcc⟩ : ∃ pcc, pc.c = pcc := ⟨_, rfl⟩
        obtain ⟨lp, hlp⟩ : ∃ lp, px.length = lp := ⟨_, rfl⟩
        rw [hpx, hpa, hpcc, hlp] at HPG hg0
        rw [hpx] at hcc hrng hnx
        rw [hpa, hpcc] at hnl
        have hlpn : lp ≤ n := by
          rcases hnx with ⟨_, e⟩ | ⟨j, _, _, _, _, e⟩ <;> rw [e] at hjk <;> simp only [List.length_append] at hjk <;> omega
        have HCC := hid hcc
        have HRNG : Veil3 (∀ x ∈ px, 0 ≤ x ∧ x < 256) := ⟨hrng⟩
        have HNL := hid hnl
        have HLP := hid hlp
        clear hcc hrng hnl hpxs hpcv hpm hpx hpa hpcc hlp
        have HPL : Hid (∀ (w : World) rs rs', St W w rs → Pull (star (pcs.map Pc.res)) rs rs' → Ext W w → Calls Tryd.prog 11 #[.slice pa lp pcc] w fun e w' => ∃ (ao : Option Addr) (c' : Nat), e = .returned (.tuple #[.slice ao cc.length c', .int .i64 0]) ∧ St w w' [own 5 1 ao cc.length c' (cc.map (Value.int .u8))]) := fun w rs rs' h p hE =>
          (plain_any w pa lp pcc px (HPG.out w rs rs' h p) HNL.out HRNG.out (by omega) (HML.out.imp fun m h => hE.cell h)).mono fun e w' h => h.1 cc HCC.out
        rcases hnx with ⟨rfl, hj1⟩ | ⟨j, rfl, hj2, hm1, hm2, hj1⟩
        · have HJ := hid hj1
          clear hj1
          repeat' (first
            | go_skip
            | go_big_skip
            | ((with_reducible show wpList _ _ _ (⟨_, .move _, _, _, _, _⟩ :: _) _ _); (first | go_big_want | go_step); go_step)
            | ((with_reducible show wpList _ _ _ (⟨_, .assign _, _, _, _, _⟩ :: _) _ _); (first | go_big_want | go_step); go_step)
            | ((with_reducible show wpList _ _ _ (⟨_, .pick _ _ _, _, _, _, _⟩ :: _) _ _); first | (refine wplPickT rfl (by kernel_rfl) ?_; go_step) | (refine wplPickF rfl (by kernel_rfl) ?_; go_step))
            | ((with_reducible show wpList _ _ _ (⟨some 36, .binOp .lss _ _ _ _, _, _, _, _⟩ :: _) _ _); first | (refine wplV _ (V.lss rfl rfl) (by kernel_rfl) ?_; go_step))
            | ((with_reducible show wpList _ _ _ (⟨some 38, .indexAddr 30 _ _, _, _, _, _⟩ :: _) _ _); first | (refine wplV _ (V.indexSl Tryd.underlying30 isz22 rfl rfl (by (repeat (first | exact IsN.auto | with_reducible apply IsN.add | with_reducible apply IsN.sub | with_reducible apply IsN.mul | with_reducible apply IsN.div | with_reducible apply IsN.mod | with_reducible apply IsN.min | with_reducible apply IsN.max | (with_reducible show (_ : Nat) ≤ _; omega) | exact IsN.toNat (by omega)))) (by omega) (Nat.mul_one _) (by first | with_reducible exact Nat.zero_add _ | with_reducible exact Nat.add_zero _ | exact rfl)) (by kernel_rfl) ?_; go_step) | (refine wpl_indexW (by with_reducible assumption) Tryd.underlying30 isz22 rfl rfl (by (repeat (first | exact IsN.auto | with_reducible apply IsN.add | with_reducible apply IsN.sub | with_reducible apply IsN.mul | with_reducible apply IsN.div | with_reducible apply IsN.mod | with_reducible apply IsN.min | with_reducible apply IsN.max | (with_reducible show (_ : Nat) ≤ _; omega) | exact IsN.toNat (by omega)))) (by omega) rfl ?_; intro b38 o38 hc38; go_step) | (refine wpl_indexO hS rfl (by (repeat (first | with_reducible exact Pull.head | apply Pull.tail))) Tryd.underlying30 isz22 rfl (by (repeat (first | exact IsN.auto | with_reducible apply IsN.add | with_reducible apply IsN.sub | with_reducible apply IsN.mul | with_reducible apply IsN.div | with_reducible apply IsN.mod | with_reducible apply IsN.min | with_reducible apply IsN.max | (with_reducible show (_ : Nat) ≤ _; omega) | exact IsN.toNat (by omega)))) (by omega) (Nat.mul_one _) rfl ?_; (first | (rintro b38 rfl) | (intro b38 hb38; cases hb38)); go_step))
            | ((with_reducible show wpList _ _ _ (⟨some 41, .binOp .gtr _ _ _ _, _, _, _, _⟩ :: _) _ _); first | (refine wplV _ (V.gtr rfl rfl) (by kernel_rfl) ?_; go_step))
            | ((with_reducible show wpList _ _ _ (⟨_, .load 22 _, _, _, _, _⟩ :: _) _ _); first | (refine wpl (by kernel_rfl) ?_; apply wp_load1 hS 22 _ rfl _ _ rfl (one_of rfl) _; (case hp => (repeat (first | with_reducible exact Pull.head | apply Pull.tail))); (case hc => rfl); refine put_move ?_; go_step) | (refine wpl (by kernel_rfl) ?_; apply wp_load1O hS 22 _ rfl _ _ rfl (one_of rfl) _ _ _ _ _; (case hp => (repeat (first | with_reducible exact Pull.head | apply Pull.tail))); (case hv => with_reducible assumption); refine put_move ?_; go_step) | (refine wpl (by kernel_rfl) ?_; apply wp_loadW hS 22 _ rfl _ rfl (one_of rfl) _; (case hc => with_reducible assumption); refine put_move ?_; go_step))
            | ((fail_if_success (with_reducible show wpList _ _ _ (_ :: _) _ _)); go_step))
          repeat' (first
            | ((with_reducible show wpList _ _ _ (⟨_, .call ⟨.value (.func 11), _, _⟩, _, _, _, _⟩ :: _) _ _); refine wpl_call (f := 11) Tryd.call11 (by kernel_rfl) ?_; refine ⟨_, (HPL.out _ _ _ hS (by (repeat (first | with_reducible exact Pull.head | apply Pull.tail))) hS.1), ?_⟩; rintro e w ⟨ao2, c2, rfl, hS2⟩; replace hS := hS.call1 hS2; clear hS2; refine ⟨_, rfl, ?_⟩; refine put_move ?_; go_step)
            | go_skip
            | go_big_skip
            | ((with_reducible show wpList _ _ _ (⟨_, .move _, _, _, _, _⟩ :: _) _ _); (first | go_big_want | go_step); go_step)
            | ((with_reducible show wpList _ _ _ (⟨_, .assign _, _, _, _, _⟩ :: _) _ _); (first | go_big_want | go_step); go_step)
            | ((with_reducible show wpList _ _ _ (⟨_, .pick _ _ _, _, _, _, _⟩ :: _) _ _); first | (refine wplPickT rfl (by kernel_rfl) ?_; go_step) | (refine wplPickF rfl (by kernel_rfl) ?_; go_step))
            | ((with_reducible show wpList _ _ _ (⟨some 68, .extract _ _, _, _, _, _⟩ :: _) _ _); first | (refine wplV _ (V.extract rfl rfl) (by kernel_rfl) ?_; go_step))
            | ((with_reducible show wpList _ _ _ (⟨some 69, .extract _ _, _, _, _, _⟩ :: _) _ _); first | (refine wplV _ (V.extract rfl rfl) (by kernel_rfl) ?_; go_step))
            | ((with_reducible show wpList _ _ _ (⟨some 71, .binOp .neq 27 _ _ _, _, _, _, _⟩ :: _) _ _); first | (refine wplV _ (V.neq rfl rfl) (by kernel_rfl) ?_; go_step))
            | ((fail_if_success (with_reducible show wpList _ _ _ (_ :: _) _ _)); go_step))
          have hpg := HPG.out _ _ _ hS (by (repeat (first | with_reducible exact Pull.head | apply Pull.tail)))
          repeat' (first
            | ((with_reducible show wpList _ _ _ (⟨some 75, .binOp .add _ _ _ _, _, _, _, _⟩ :: _) _ _); first | (refine wplV (.int _ (((0 + 1 : Nat) : Int))) (V.as (V.addI rfl rfl (by omega)) (by omega)) rfl ?_; go_step) | (refine wplV (.int _ (((0 + 1 : Nat) : Int))) (V.as (V.addR (by decide) rfl rfl) (by omega)) rfl ?_; go_step))
            | go_skip
            | go_big_skip
            | ((with_reducible show wpList _ _ _ (⟨_, .move _, _, _, _, _⟩ :: _) _ _); (first | go_big_want | go_step); go_step)
            | ((with_reducible show wpList _ _ _ (⟨_, .assign _, _, _, _, _⟩ :: _) _ _); (first | go_big_want | go_step); go_step)
            | ((with_reducible show wpList _ _ _ (⟨_, .pick _ _ _, _, _, _, _⟩ :: _) _ _); first | (refine wplPickT rfl (by kernel_rfl) ?_; go_step) | (refine wplPickF rfl (by kernel_rfl) ?_; go_step))
            | ((with_reducible show wpList _ _ _ (⟨some 75, .binOp .add _ _ _ _, _, _, _, _⟩ :: _) _ _); first | (refine wplV _ (V.addI rfl rfl (by omega)) (by kernel_rfl) ?_; go_step) | (refine wplV _ (V.addR (by decide) rfl rfl) (by kernel_rfl) ?_; go_step))
            | ((with_reducible show wpList _ _ _ (⟨some 74, .call ⟨.builtin .append, _, _⟩, _, _, _, _⟩ :: _) _ _); first | (refine wpl (by kernel_rfl) ?_; apply wp_append (o := ⟨some 74, _, _, _, _, _⟩) hS _ _ 22 rfl 5 1 1 el22 _ _ _ _ rfl; (case hp => (repeat (first | with_reducible exact Pull.head | apply Pull.tail))); (case hx => exact rfl); (case hm => (first | exact hS.slBlk (by (repeat (first | with_reducible exact Pull.head | apply Pull.tail))) (by rfl) (by decide) | exact hS.sl (by (repeat (first | with_reducible exact Pull.head | apply Pull.tail))) | with_reducible assumption | exact Sl.ext (by with_reducible assumption) hS.1 | exact Sl.nil _ _ | exact Sl.ext (by assumption) hS.1 | assumption)); (case h1 => (first | exact oneAll rfl | exact oneMap _ _ | (intro u hu; cases hu))); (case h63 => unfold maxLen; omega); (case hb => omega); clear hS; intro ad74 c74 w hS; (first | simp only [mapk1] at hS | simp only [mapk2] at hS | simp only [mapk3] at hS | simp only [mapk4] at hS | simp only [mapkl] at hS | skip); refine put_move ?_; go_step) | (refine wpl (by kernel_rfl) ?_; apply wp_append (o := ⟨some 74, _, _, _, _, _⟩) (hS.nilk 5 1 .u8) _ _ 22 rfl 5 1 1 el22 _ _ _ _ rfl; (case hp => (repeat (first | with_reducible exact Pull.head | apply Pull.tail))); (case hx => exact rfl); (case hm => (first | exact hS.slBlk (by (repeat (first | with_reducible exact Pull.head | apply Pull.tail))) (by rfl) (by decide) | exact hS.sl (by (repeat (first | with_reducible exact Pull.head | apply Pull.tail))) | with_reducible assumption | exact Sl.ext (by with_reducible assumption) hS.1 | exact Sl.nil _ _ | exact Sl.ext (by assumption) hS.1 | assumption)); (case h1 => (first | exact oneAll rfl | exact oneMap _ _ | (intro u hu; cases hu))); (case h63 => unfold maxLen; omega); (case hb => omega); clear hS; intro ad74 c74 w hS; (first | simp only [mapk1] at hS | simp only [mapk2] at hS | simp only [mapk3] at hS | simp only [mapk4] at hS | simp only [mapkl] at hS | skip); refine put_move ?_; go_step))
            | ((fail_if_success (with_reducible show wpList _ _ _ (_ :: _) _ _)); go_step))
          go_roundg (gk - 1)
          case measure => omega
          case rel => exact ⟨0 + 1, L + lp, _, _, by omega, by rw [HJ.out, List.length_append, ← hL, HLP.out], by go_num, rfl, by rw [HJ.out]; exact hS.sub (by (repeat (first | exact Sub.nil | with_reducible exact Sub.refl | (apply Sub.cons; (case p => (repeat (first | with_reducible exact Pull.head | apply Pull.tail)))) | apply Sub.skip)))⟩
        · have HJ := hid hj1
          clear hj1
          obtain ⟨bm, rfl⟩ := own_some (hS.sub (xs := [own 3 1 am lm cm (ms.map (Value.int .i64))]) (by (repeat (first | exact Sub.nil | with_reducible exact Sub.refl | (apply Sub.cons; (case p => (repeat (first | with_reducible exact Pull.head | apply Pull.tail)))) | apply Sub.skip)))) .head (by omega)
          repeat' (first
            | go_skip
            | go_big_skip
            | ((with_reducible show wpList _ _ _ (⟨_, .move _, _, _, _, _⟩ :: _) _ _); (first | go_big_want | go_step); go_step)
            | ((with_reducible show wpList _ _ _ (⟨_, .assign _, _, _, _, _⟩ :: _) _ _); (first | go_big_want | go_step); go_step)
            | ((with_reducible show wpList _ _ _ (⟨_, .pick _ _ _, _, _, _, _⟩ :: _) _ _); first | (refine wplPickT rfl (by kernel_rfl) ?_; go_step) | (refine wplPickF rfl (by kernel_rfl) ?_; go_step))
            | ((with_reducible show wpList _ _ _ (⟨some 36, .binOp .lss _ _ _ _, _, _, _, _⟩ :: _) _ _); first | (refine wplV _ (V.lss rfl rfl) (by kernel_rfl) ?_; go_step))
            | ((with_reducible show wpList _ _ _ (⟨some 38, .indexAddr 30 _ _, _, _, _, _⟩ :: _) _ _); first | (refine wplV _ (V.indexSl Tryd.underlying30 isz22 rfl rfl (by (repeat (first | exact IsN.auto | with_reducible apply IsN.add | with_reducible apply IsN.sub | with_reducible apply IsN.mul | with_reducible apply IsN.div | with_reducible apply IsN.mod | with_reducible apply IsN.min | with_reducible apply IsN.max | (with_reducible show (_ : Nat) ≤ _; omega) | exact IsN.toNat (by omega)))) (by omega) (Nat.mul_one _) (by first | with_reducible exact Nat.zero_add _ | with_reducible exact Nat.add_zero _ | exact rfl)) (by kernel_rfl) ?_; go_step) | (refine wpl_indexW (by with_reducible assumption) Tryd.underlying30 isz22 rfl rfl (by (repeat (first | exact IsN.auto | with_reducible apply IsN.add | with_reducible apply IsN.sub | with_reducible apply IsN.mul | with_reducible apply IsN.div | with_reducible apply IsN.mod | with_reducible apply IsN.min | with_reducible apply IsN.max | (with_reducible show (_ : Nat) ≤ _; omega) | exact IsN.toNat (by omega)))) (by omega) rfl ?_; intro b38 o38 hc38; go_step) | (refine wpl_indexO hS rfl (by (repeat (first | with_reducible exact Pull.head | apply Pull.tail))) Tryd.underlying30 isz22 rfl (by (repeat (first | exact IsN.auto | with_reducible apply IsN.add | with_reducible apply IsN.sub | with_reducible apply IsN.mul | with_reducible apply IsN.div | with_reducible apply IsN.mod | with_reducible apply IsN.min | with_reducible apply IsN.max | (with_reducible show (_ : Nat) ≤ _; omega) | exact IsN.toNat (by omega)))) (by omega) (Nat.mul_one _) rfl ?_; (first | (rintro b38 rfl) | (intro b38 hb38; cases hb38)); go_step))
            | ((with_reducible show wpList _ _ _ (⟨some 41, .binOp .gtr _ _ _ _, _, _, _, _⟩ :: _) _ _); first | (refine wplV _ (V.gtr rfl rfl) (by kernel_rfl) ?_; go_step))
            | ((with_reducible show wpList _ _ _ (⟨_, .load 22 _, _, _, _, _⟩ :: _) _ _); first | (refine wpl (by kernel_rfl) ?_; apply wp_load1 hS 22 _ rfl _ _ rfl (one_of rfl) _; (case hp => (repeat (first | with_reducible exact Pull.head | apply Pull.tail))); (case hc => rfl); refine put_move ?_; go_step) | (refine wpl (by kernel_rfl) ?_; apply wp_load1O hS 22 _ rfl _ _ rfl (one_of rfl) _ _ _ _ _; (case hp => (repeat (first | with_reducible exact Pull.head | apply Pull.tail))); (case hv => with_reducible assumption); refine put_move ?_; go_step) | (refine wpl (by kernel_rfl) ?_; apply wp_loadW hS 22 _ rfl _ rfl (one_of rfl) _; (case hc => with_reducible assumption); refine put_move ?_; go_step))
            | ((fail_if_success (with_reducible show wpList _ _ _ (_ :: _) _ _)); go_step))
          repeat' (first
            | ((with_reducible show wpList _ _ _ (⟨some 44, .binOp .sub _ _ _ _, _, _, _, _⟩ :: _) _ _); first | (refine wplV (.int _ (((j : Nat) : Int))) (V.as (V.subI rfl rfl (by omega)) (by omega)) rfl ?_; go_step) | (refine wplV (.int _ (((j : Nat) : Int))) (V.as (V.subR (by decide) rfl rfl) (by omega)) rfl ?_; go_step))
            | ((with_reducible show wpList _ _ _ (⟨some 51, .binOp .sub _ _ _ _, _, _, _, _⟩ :: _) _ _); first | (refine wplV (.int _ (((j : Nat) : Int))) (V.as (V.subI rfl rfl (by omega)) (by omega)) rfl ?_; go_step) | (refine wplV (.int _ (((j : Nat) : Int))) (V.as (V.subR (by decide) rfl rfl) (by omega)) rfl ?_; go_step))
            | ((with_reducible show wpList _ _ _ (⟨some 59, .binOp .sub _ _ _ _, _, _, _, _⟩ :: _) _ _); first | (refine wplV (.int _ (((j : Nat) : Int))) (V.as (V.subI rfl rfl (by omega)) (by omega)) rfl ?_; go_step) | (refine wplV (.int _ (((j : Nat) : Int))) (V.as (V.subR (by decide) rfl rfl) (by omega)) rfl ?_; go_step))
            | go_skip
            | go_big_skip
            | ((with_reducible show wpList _ _ _ (⟨_, .move _, _, _, _, _⟩ :: _) _ _); (first | go_big_want | go_step); go_step)
            | ((with_reducible show wpList _ _ _ (⟨_, .assign _, _, _, _, _⟩ :: _) _ _); (first | go_big_want | go_step); go_step)
            | ((with_reducible show wpList _ _ _ (⟨_, .pick _ _ _, _, _, _, _⟩ :: _) _ _); first | (refine wplPickT rfl (by kernel_rfl) ?_; go_step) | (refine wplPickF rfl (by kernel_rfl) ?_; go_step))
            | ((with_reducible show wpList _ _ _ (⟨some 47, .binOp .lss _ _ _ _, _, _, _, _⟩ :: _) _ _); first | (refine wplD _ (V.lss rfl rfl) (by kernel_rfl) (fun hB => ?_) (fun hB => ?_) <;> (try (have hF : False := (by omega); cases hF)) <;> go_step) | (refine wplB _ (V.lss rfl rfl) (by kernel_rfl) (fun hB => ?_) (fun hB => ?_) <;> (try (have hF : False := (absurd hB (by decide)); cases hF)) <;> go_step))
            | ((with_reducible show wpList _ _ _ (⟨some 44, .binOp .sub _ _ _ _, _, _, _, _⟩ :: _) _ _); first | (refine wplV _ (V.subI rfl rfl (by omega)) (by kernel_rfl) ?_; go_step) | (refine wplV _ (V.subR (by decide) rfl rfl) (by kernel_rfl) ?_; go_step))
            | ((with_reducible show wpList _ _ _ (⟨some 45, .indexAddr 31 _ _, _, _, _, _⟩ :: _) _ _); first | (refine wplV _ (V.indexSl Tryd.underlying31 isz3 rfl rfl (by (repeat (first | exact IsN.auto | with_reducible apply IsN.add | with_reducible apply IsN.sub | with_reducible apply IsN.mul | with_reducible apply IsN.div | with_reducible apply IsN.mod | with_reducible apply IsN.min | with_reducible apply IsN.max | (with_reducible show (_ : Nat) ≤ _; omega) | exact IsN.toNat (by omega)))) (by omega) (Nat.mul_one _) (by first | with_reducible exact Nat.zero_add _ | with_reducible exact Nat.add_zero _ | exact rfl)) (by kernel_rfl) ?_; go_step) | (refine wpl_indexI (by with_reducible assumption) Tryd.underlying31 isz3 rfl rfl (by (repeat (first | exact IsN.auto | with_reducible apply IsN.add | with_reducible apply IsN.sub | with_reducible apply IsN.mul | with_reducible apply IsN.div | with_reducible apply IsN.mod | with_reducible apply IsN.min | with_reducible apply IsN.max | (with_reducible show (_ : Nat) ≤ _; omega) | exact IsN.toNat (by omega)))) (by omega) rfl ?_; intro b45 o45 hc45; go_step) | (refine wpl_indexW (by with_reducible assumption) Tryd.underlying31 isz3 rfl rfl (by (repeat (first | exact IsN.auto | with_reducible apply IsN.add | with_reducible apply IsN.sub | with_reducible apply IsN.mul | with_reducible apply IsN.div | with_reducible apply IsN.mod | with_reducible apply IsN.min | with_reducible apply IsN.max | (with_reducible show (_ : Nat) ≤ _; omega) | exact IsN.toNat (by omega)))) (by omega) rfl ?_; intro b45 o45 hc45; go_step) | (refine wpl_indexO hS rfl (by (repeat (first | with_reducible exact Pull.head | apply Pull.tail))) Tryd.underlying31 isz3 rfl (by (repeat (first | exact IsN.auto | with_reducible apply IsN.add | with_reducible apply IsN.sub | with_reducible apply IsN.mul | with_reducible apply IsN.div | with_reducible apply IsN.mod | with_reducible apply IsN.min | with_reducible apply IsN.max | (with_reducible show (_ : Nat) ≤ _; omega) | exact IsN.toNat (by omega)))) (by omega) (Nat.mul_one _) rfl ?_; (first | (rintro b45 rfl) | (intro b45 hb45; cases hb45)); go_step))
            | ((with_reducible show wpList _ _ _ (⟨some 51, .binOp .sub _ _ _ _, _, _, _, _⟩ :: _) _ _); first | (refine wplV _ (V.subI rfl rfl (by omega)) (by kernel_rfl) ?_; go_step) | (refine wplV _ (V.subR (by decide) rfl rfl) (by kernel_rfl) ?_; go_step))
            | ((with_reducible show wpList _ _ _ (⟨some 52, .indexAddr 31 _ _, _, _, _, _⟩ :: _) _ _); first | (refine wplV _ (V.indexSl Tryd.underlying31 isz3 rfl rfl (by (repeat (first | exact IsN.auto | with_reducible apply IsN.add | with_reducible apply IsN.sub | with_reducible apply IsN.mul | with_reducible apply IsN.div | with_reducible apply IsN.mod | with_reducible apply IsN.min | with_reducible apply IsN.max | (with_reducible show (_ : Nat) ≤ _; omega) | exact IsN.toNat (by omega)))) (by omega) (Nat.mul_one _) (by first | with_reducible exact Nat.zero_add _ | with_reducible exact Nat.add_zero _ | exact rfl)) (by kernel_rfl) ?_; go_step) | (refine wpl_indexI (by with_reducible assumption) Tryd.underlying31 isz3 rfl rfl (by (repeat (first | exact IsN.auto | with_reducible apply IsN.add | with_reducible apply IsN.sub | with_reducible apply IsN.mul | with_reducible apply IsN.div | with_reducible apply IsN.mod | with_reducible apply IsN.min | with_reducible apply IsN.max | (with_reducible show (_ : Nat) ≤ _; omega) | exact IsN.toNat (by omega)))) (by omega) rfl ?_; intro b52 o52 hc52; go_step) | (refine wpl_indexW (by with_reducible assumption) Tryd.underlying31 isz3 rfl rfl (by (repeat (first | exact IsN.auto | with_reducible apply IsN.add | with_reducible apply IsN.sub | with_reducible apply IsN.mul | with_reducible apply IsN.div | with_reducible apply IsN.mod | with_reducible apply IsN.min | with_reducible apply IsN.max | (with_reducible show (_ : Nat) ≤ _; omega) | exact IsN.toNat (by omega)))) (by omega) rfl ?_; intro b52 o52 hc52; go_step) | (refine wpl_indexO hS rfl (by (repeat (first | with_reducible exact Pull.head | apply Pull.tail))) Tryd.underlying31 isz3 rfl (by (repeat (first | exact IsN.auto | with_reducible apply IsN.add | with_reducible apply IsN.sub | with_reducible apply IsN.mul | with_reducible apply IsN.div | with_reducible apply IsN.mod | with_reducible apply IsN.min | with_reducible apply IsN.max | (with_reducible show (_ : Nat) ≤ _; omega) | exact IsN.toNat (by omega)))) (by omega) (Nat.mul_one _) rfl ?_; (first | (rintro b52 rfl) | (intro b52 hb52; cases hb52)); go_step))
            | ((with_reducible show wpList _ _ _ (⟨some 54, .binOp .gtr _ _ _ _, _, _, _, _⟩ :: _) _ _); first | (refine wplV _ (V.gtr rfl rfl) (by kernel_rfl) ?_; go_step))
            | ((with_reducible show wpList _ _ _ (⟨some 59, .binOp .sub _ _ _ _, _, _, _, _⟩ :: _) _ _); first | (refine wplV _ (V.subI rfl rfl (by omega)) (by kernel_rfl) ?_; go_step) | (refine wplV _ (V.subR (by decide) rfl rfl) (by kernel_rfl) ?_; go_step))
            | ((with_reducible show wpList _ _ _ (⟨some 60, .indexAddr 31 _ _, _, _, _, _⟩ :: _) _ _); first | (refine wplV _ (V.indexSl Tryd.underlying31 isz3 rfl rfl (by (repeat (first | exact IsN.auto | with_reducible apply IsN.add | with_reducible apply IsN.sub | with_reducible apply IsN.mul | with_reducible apply IsN.div | with_reducible apply IsN.mod | with_reducible apply IsN.min | with_reducible apply IsN.max | (with_reducible show (_ : Nat) ≤ _; omega) | exact IsN.toNat (by omega)))) (by omega) (Nat.mul_one _) (by first | with_reducible exact Nat.zero_add _ | with_reducible exact Nat.add_zero _ | exact rfl)) (by kernel_rfl) ?_; go_step) | (refine wpl_indexI (by with_reducible assumption) Tryd.underlying31 isz3 rfl rfl (by (repeat (first | exact IsN.auto | with_reducible apply IsN.add | with_reducible apply IsN.sub | with_reducible apply IsN.mul | with_reducible apply IsN.div | with_reducible apply IsN.mod | with_reducible apply IsN.min | with_reducible apply IsN.max | (with_reducible show (_ : Nat) ≤ _; omega) | exact IsN.toNat (by omega)))) (by omega) rfl ?_; intro b60 o60 hc60; go_step) | (refine wpl_indexW (by with_reducible assumption) Tryd.underlying31 isz3 rfl rfl (by (repeat (first | exact IsN.auto | with_reducible apply IsN.add | with_reducible apply IsN.sub | with_reducible apply IsN.mul | with_reducible apply IsN.div | with_reducible apply IsN.mod | with_reducible apply IsN.min | with_reducible apply IsN.max | (with_reducible show (_ : Nat) ≤ _; omega) | exact IsN.toNat (by omega)))) (by omega) rfl ?_; intro b60 o60 hc60; go_step) | (refine wpl_indexO hS rfl (by (repeat (first | with_reducible exact Pull.head | apply Pull.tail))) Tryd.underlying31 isz3 rfl (by (repeat (first | exact IsN.auto | with_reducible apply IsN.add | with_reducible apply IsN.sub | with_reducible apply IsN.mul | with_reducible apply IsN.div | with_reducible apply IsN.mod | with_reducible apply IsN.min | with_reducible apply IsN.max | (with_reducible show (_ : Nat) ≤ _; omega) | exact IsN.toNat (by omega)))) (by omega) (Nat.mul_one _) rfl ?_; (first | (rintro b60 rfl) | (intro b60 hb60; cases hb60)); go_step))
            | ((with_reducible show wpList _ _ _ (⟨some 62, .convert 3 5 _, _, _, _, _⟩ :: _) _ _); first | (refine wplV _ (V.convI (by rw [Tryd.underlying3]; rfl) Tryd.underlying5 rfl (IntWalk.u8_in _ (by omega))) (by kernel_rfl) ?_; go_step) | (refine wplV _ (V.conv (by rw [Tryd.underlying3]; rfl) Tryd.underlying5 rfl) (by kernel_rfl) ?_; go_step))
            | ((with_reducible show wpList _ _ _ (⟨_, .load 3 _, _, _, _, _⟩ :: _) _ _); first | (refine wpl (by kernel_rfl) ?_; apply wp_load1A hS 3 _ rfl _ _ rfl (one_of rfl) _ _; (case hp => (repeat (first | with_reducible exact Pull.head | apply Pull.tail))); (case hi => omega); refine put_move ?_; go_step) | (refine wpl (by kernel_rfl) ?_; apply wp_load1OI hS 3 _ rfl _ _ rfl (one_of rfl) _ _ _ _ _; (case hp => (repeat (first | with_reducible exact Pull.head | apply Pull.tail))); (case hi => omega); refine put_move ?_; go_step) | (refine wpl (by kernel_rfl) ?_; apply wp_load1 hS 3 _ rfl _ _ rfl (one_of rfl) _; (case hp => (repeat (first | with_reducible exact Pull.head | apply Pull.tail))); (case hc => rfl); refine put_move ?_; go_step) | (refine wpl (by kernel_rfl) ?_; apply wp_load1O hS 3 _ rfl _ _ rfl (one_of rfl) _ _ _ _ _; (case hp => (repeat (first | with_reducible exact Pull.head | apply Pull.tail))); (case hv => with_reducible assumption); refine put_move ?_; go_step) | (refine wpl (by kernel_rfl) ?_; apply wp_loadW hS 3 _ rfl _ rfl (one_of rfl) _; (case hc => with_reducible assumption); refine put_move ?_; go_step) | (refine wpl (by kernel_rfl) ?_; apply wp_load1R hS 3 _ rfl _ _ _ rfl (one_of rfl) _ _; (case hl => with_reducible assumption); (case hr => with_reducible assumption); (case hf => omega); refine put_move ?_; go_step) | (refine wpl (by kernel_rfl) ?_; apply wp_load1R0 hS 3 _ rfl _ _ rfl (one_of rfl) _ _; (case hl => with_reducible assumption); (case hr => with_reducible assumption); (case hf => omega); refine put_move ?_; go_step))
            | ((with_reducible show wpList _ _ _ (⟨some 63, .buildSlice 22 _ _, _, _, _, _⟩ :: _) _ _); first | (refine wpl (by kernel_rfl) ?_; apply wp_buildSlice1 (o := ⟨some 63, _, _, _, _, _⟩) hS 22 2 _ rfl 5 1 1 el22 _ _; (case hvs => (repeat (first | exact Parts.nil | (apply Parts.agg; (rfl); (rfl)) | (apply Parts.one; (first | exact IsV.int rfl | exact IsV.bool rfl | exact IsV.slice rfl | exact IsV.pointer rfl | exact IsV.string rfl | exact IsV.map rfl | exact IsV.func rfl); (rfl); (rfl))))); (case hn => rfl); (case hn0 => decide); (case hns => decide); clear hS; intro g63 w hS; refine put_move ?_; go_step))
            | ((with_reducible show wpList _ _ _ (⟨some 64, .call ⟨.builtin .append, _, _⟩, _, _, _, _⟩ :: _) _ _); first | (refine wpl (by kernel_rfl) ?_; apply wp_append (o := ⟨some 64, _, _, _, _, _⟩) hS _ _ 22 rfl 5 1 1 el22 _ _ _ _ rfl; (case hp => (repeat (first | with_reducible exact Pull.head | apply Pull.tail))); (case hx => exact rfl); (case hm => (first | exact hS.slBlk (by (repeat (first | with_reducible exact Pull.head | apply Pull.tail))) (by rfl) (by decide) | exact hS.sl (by (repeat (first | with_reducible exact Pull.head | apply Pull.tail))) | with_reducible assumption | exact Sl.ext (by with_reducible assumption) hS.1 | exact Sl.nil _ _ | exact Sl.ext (by assumption) hS.1 | assumption)); (case h1 => (first | exact oneAll rfl | exact oneMap _ _ | (intro u hu; cases hu))); (case h63 => unfold maxLen; omega); (case hb => omega); clear hS; intro ad64 c64 w hS; (first | simp only [mapk1] at hS | simp only [mapk2] at hS | simp only [mapk3] at hS | simp only [mapk4] at hS | simp only [mapkl] at hS | skip); refine put_move ?_; go_step) | (refine wpl (by kernel_rfl) ?_; apply wp_append (o := ⟨some 64, _, _, _, _, _⟩) (hS.nilk 5 1 .u8) _ _ 22 rfl 5 1 1 el22 _ _ _ _ rfl; (case hp => (repeat (first | with_reducible exact Pull.head | apply Pull.tail))); (case hx => exact rfl); (case hm => (first | exact hS.slBlk (by (repeat (first | with_reducible exact Pull.head | apply Pull.tail))) (by rfl) (by decide) | exact hS.sl (by (repeat (first | with_reducible exact Pull.head | apply Pull.tail))) | with_reducible assumption | exact Sl.ext (by with_reducible assumption) hS.1 | exact Sl.nil _ _ | exact Sl.ext (by assumption) hS.1 | assumption)); (case h1 => (first | exact oneAll rfl | exact oneMap _ _ | (intro u hu; cases hu))); (case h63 => unfold maxLen; omega); (case hb => omega); clear hS; intro ad64 c64 w hS; (first | simp only [mapk1] at hS | simp only [mapk2] at hS | simp only [mapk3] at hS | simp only [mapk4] at hS | simp only [mapkl] at hS | skip); refine put_move ?_; go_step))
            | ((fail_if_success (with_reducible show wpList _ _ _ (_ :: _) _ _)); go_step))
          all_goals
            repeat' (first
              | ((with_reducible show wpList _ _ _ (⟨_, .call ⟨.value (.func 11), _, _⟩, _, _, _, _⟩ :: _) _ _); refine wpl_call (f := 11) Tryd.call11 (by kernel_rfl) ?_; refine ⟨_, (HPL.out _ _ _ hS (by (repeat (first | with_reducible exact Pull.head | apply Pull.tail))) hS.1), ?_⟩; rintro e w ⟨ao2, c2, rfl, hS2⟩; replace hS := hS.call1 hS2; clear hS2; refine ⟨_, rfl, ?_⟩; refine put_move ?_; go_step)
              | go_skip
              | go_big_skip
              | ((with_reducible show wpList _ _ _ (⟨_, .move _, _, _, _, _⟩ :: _) _ _); (first | go_big_want | go_step); go_step)
              | ((with_reducible show wpList _ _ _ (⟨_, .assign _, _, _, _, _⟩ :: _) _ _); (first | go_big_want | go_step); go_step)
              | ((with_reducible show wpList _ _ _ (⟨_, .pick _ _ _, _, _, _, _⟩ :: _) _ _); first | (refine wplPickT rfl (by kernel_rfl) ?_; go_step) | (refine wplPickF rfl (by kernel_rfl) ?_; go_step))
              | ((with_reducible show wpList _ _ _ (⟨some 68, .extract _ _, _, _, _, _⟩ :: _) _ _); first | (refine wplV _ (V.extract rfl rfl) (by kernel_rfl) ?_; go_step))
              | ((with_reducible show wpList _ _ _ (⟨some 69, .extract _ _, _, _, _, _⟩ :: _) _ _); first | (refine wplV _ (V.extract rfl rfl) (by kernel_rfl) ?_; go_step))
              | ((with_reducible show wpList _ _ _ (⟨some 71, .binOp .neq 27 _ _ _, _, _, _, _⟩ :: _) _ _); first | (refine wplV _ (V.neq rfl rfl) (by kernel_rfl) ?_; go_step))
              | ((fail_if_success (with_reducible show wpList _ _ _ (_ :: _) _ _)); go_step))
            have hpg := HPG.out _ _ _ hS (by (repeat (first | with_reducible exact Pull.head | apply Pull.tail)))
            repeat' (first
              | ((with_reducible show wpList _ _ _ (⟨some 75, .binOp .add _ _ _ _, _, _, _, _⟩ :: _) _ _); first | (refine wplV (.int _ (((j + 1 + 1 : Nat) : Int))) (V.as (V.addI rfl rfl (by omega)) (by omega)) rfl ?_; go_step) | (refine wplV (.int _ (((j + 1 + 1 : Nat) : Int))) (V.as (V.addR (by decide) rfl rfl) (by omega)) rfl ?_; go_step))
              | go_skip
              | go_big_skip
              | ((with_reducible show wpList _ _ _ (⟨_, .move _, _, _, _, _⟩ :: _) _ _); (first | go_big_want | go_step); go_step)
              | ((with_reducible show wpList _ _ _ (⟨_, .assign _, _, _, _, _⟩ :: _) _ _); (first | go_big_want | go_step); go_step)
              | ((with_reducible show wpList _ _ _ (⟨_, .pick _ _ _, _, _, _, _⟩ :: _) _ _); first | (refine wplPickT rfl (by kernel_rfl) ?_; go_step) | (refine wplPickF rfl (by kernel_rfl) ?_; go_step))
              | ((with_reducible show wpList _ _ _ (⟨some 75, .binOp .add _ _ _ _, _, _, _, _⟩ :: _) _ _); first | (refine wplV _ (V.addI rfl rfl (by omega)) (by kernel_rfl) ?_; go_step) | (refine wplV _ (V.addR (by decide) rfl rfl) (by kernel_rfl) ?_; go_step))
              | ((with_reducible show wpList _ _ _ (⟨some 74, .call ⟨.builtin .append, _, _⟩, _, _, _, _⟩ :: _) _ _); first | (refine wpl (by kernel_rfl) ?_; apply wp_append (o := ⟨some 74, _, _, _, _, _⟩) hS _ _ 22 rfl 5 1 1 el22 _ _ _ _ rfl; (case hp => (repeat (first | with_reducible exact Pull.head | apply Pull.tail))); (case hx => exact rfl); (case hm => (first | exact hS.slBlk (by (repeat (first | with_reducible exact Pull.head | apply Pull.tail))) (by rfl) (by decide) | exact hS.sl (by (repeat (first | with_reducible exact Pull.head | apply Pull.tail))) | with_reducible assumption | exact Sl.ext (by with_reducible assumption) hS.1 | exact Sl.nil _ _ | exact Sl.ext (by assumption) hS.1 | assumption)); (case h1 => (first | exact oneAll rfl | exact oneMap _ _ | (intro u hu; cases hu))); (case h63 => unfold maxLen; omega); (case hb => omega); clear hS; intro ad74 c74 w hS; (first | simp only [mapk1] at hS | simp only [mapk2] at hS | simp only [mapk3] at hS | simp only [mapk4] at hS | simp only [mapkl] at hS | skip); refine put_move ?_; go_step) | (refine wpl (by kernel_rfl) ?_; apply wp_append (o := ⟨some 74, _, _, _, _, _⟩) (hS.nilk 5 1 .u8) _ _ 22 rfl 5 1 1 el22 _ _ _ _ rfl; (case hp => (repeat (first | with_reducible exact Pull.head | apply Pull.tail))); (case hx => exact rfl); (case hm => (first | exact hS.slBlk (by (repeat (first | with_reducible exact Pull.head | apply Pull.tail))) (by rfl) (by decide) | exact hS.sl (by (repeat (first | with_reducible exact Pull.head | apply Pull.tail))) | with_reducible assumption | exact Sl.ext (by with_reducible assumption) hS.1 | exact Sl.nil _ _ | exact Sl.ext (by assumption) hS.1 | assumption)); (case h1 => (first | exact oneAll rfl | exact oneMap _ _ | (intro u hu; cases hu))); (case h63 => unfold maxLen; omega); (case hb => omega); clear hS; intro ad74 c74 w hS; (first | simp only [mapk1] at hS | simp only [mapk2] at hS | simp only [mapk3] at hS | simp only [mapk4] at hS | simp only [mapkl] at hS | skip); refine put_move ?_; go_step))
              | ((fail_if_success (with_reducible show wpList _ _ _ (_ :: _) _ _)); go_step))
            go_roundg (gk - 1)
            case measure => omega
            case rel => exact ⟨j + 1 + 1, L + 2 + lp, _, _, by omega, by rw [HJ.out, List.length_append, List.length_append, ← hL, HLP.out]; rfl, by go_num, rfl, by rw [HJ.out]; exact hS.sub (by (repeat (first | exact Sub.nil | with_reducible exact Sub.refl | (apply Sub.cons; (case p => (repeat (first | with_reducible exact Pull.head | apply Pull.tail)))) | apply Sub.skip)))⟩
      · obtain rfl : k = lm + 1 := by omega
        have hfin : jn q r (lm + 1) = xs := by
          rw [E3.out]; simp only [jn]
          rw [List.take_of_length_le (by rw [HR.out]; exact Nat.le_refl _)]
        rw [hfin] at hS hL
        have E1 : BSl wr (.slice ad n c) xs := by have := HS.out.ext hS.1; unfold BSl; rw [hln]; exact this
        have E2 : BSl wr (.slice aa L ca) xs := by have := hS.sl (show Pull (own 5 1 aa L ca (xs.map (Value.int .u8))) _ _ from (by (repeat (first | with_reducible exact Pull.head | apply Pull.tail)))); unfold BSl; rw [← hL]; exact this
        have HE := hid (eqByte_yes wr _ _ _ _ E2 E1 rfl)
        clear E1 E2
        repeat' (first
          | go_skip
          | go_big_skip
          | ((with_reducible show wpList _ _ _ (⟨_, .move _, _, _, _, _⟩ :: _) _ _); (first | go_big_want | go_step); go_step)
          | ((with_reducible show wpList _ _ _ (⟨_, .assign _, _, _, _, _⟩ :: _) _ _); (first | go_big_want | go_step); go_step)
          | ((with_reducible show wpList _ _ _ (⟨_, .pick _ _ _, _, _, _, _⟩ :: _) _ _); first | (refine wplPickT rfl (by kernel_rfl) ?_; go_step) | (refine wplPickF rfl (by kernel_rfl) ?_; go_step))
          | ((with_reducible show wpList _ _ _ (⟨some 36, .binOp .lss _ _ _ _, _, _, _, _⟩ :: _) _ _); first | (refine wplV _ (V.lss rfl rfl) (by kernel_rfl) ?_; go_step))
          | ((fail_if_success (with_reducible show wpList _ _ _ (_ :: _) _ _)); go_step))
        repeat' (first
          | ((with_reducible show wpList _ _ _ (⟨_, .call ⟨.value (.func 10), _, _⟩, _, _, _, _⟩ :: _) _ _); refine wpl_call (f := 10) Tryd.call10 (by kernel_rfl) ?_; refine ⟨_, (HE.out), ?_⟩; rintro e w ⟨rfl, rfl⟩; refine ⟨_, rfl, ?_⟩; refine put_move ?_; go_step)
          | go_skip
          | go_big_skip
          | ((with_reducible show wpList _ _ _ (⟨_, .move _, _, _, _, _⟩ :: _) _ _); (first | go_big_want | go_step); go_step)
          | ((with_reducible show wpList _ _ _ (⟨_, .assign _, _, _, _, _⟩ :: _) _ _); (first | go_big_want | go_step); go_step)
          | ((with_reducible show wpList _ _ _ (⟨_, .pick _ _ _, _, _, _, _⟩ :: _) _ _); first | (refine wplPickT rfl (by kernel_rfl) ?_; go_step) | (refine wplPickF rfl (by kernel_rfl) ?_; go_step))
          | ((fail_if_success (with_reducible show wpList _ _ _ (_ :: _) _ _)); go_step))
        go_ret
        exact ⟨rfl, hS.1⟩
end Go.Proofs.YtlchbcfiefpjhaaDoor
