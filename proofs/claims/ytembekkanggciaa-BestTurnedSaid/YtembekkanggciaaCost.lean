/- The walk of best.Cost. -/
import Derived.Test.YtembekkanggciaaMake2
import Derived.Test.YtembekkanggciaaBestLaw2
namespace Go.Proofs.Ytembekkanggciaa
set_option maxRecDepth 100000
open Go.RowKit
set_option linter.unusedVariables false
/-- The map from symbols to lengths. -/
def lgF (L : List (Int × Nat × Nat)) (s : Int) : Option Value := (symW L s).map (fun y => .int .i64 (y.1 : Int))
theorem lgF_snoc (L : List (Int × Nat × Nat)) (s : Int) (l c : Nat) : (fun j => if j = s then some (Value.int .i64 (l : Int)) else lgF L j) = lgF (L ++ [(s, l, c)]) := by
  funext j
  unfold lgF
  rw [symW_snoc]
  by_cases h : j = s
  · rw [if_pos h, if_pos h]; rfl
  · rw [if_neg h, if_neg h]
theorem lgF_none {L : List (Int × Nat × Nat)} {s : Int} (h : symW L s = none) : lgF L s = none ∧ lw L s = 0 := by
  unfold lgF lw; rw [h]; exact ⟨rfl, rfl⟩
theorem lgF_some {L : List (Int × Nat × Nat)} {s : Int} {y : Nat × Nat} (h : symW L s = some y) : lgF L s = some (.int .i64 ((lw L s : Nat) : Int)) := by
  unfold lgF lw; rw [h]; rfl
theorem costL_succ (c : List Int) (n : Nat) (l : Int → Nat) : costL c (n + 1) l = costL c n l + nth c n * (l (n : Int) : Nat) := by
  unfold costL; rw [List.range_succ, isum_append]; simp [isum]
theorem costL_zero (c : List Int) (l : Int → Nat) : costL c 0 l = 0 := rfl
theorem costL_bd {c : List Int} {l : Int → Nat} {n : Nat} (h : ∀ i, i < n → 0 ≤ nth c i ∧ nth c i ≤ 9999) (h16 : ∀ s, l s ≤ 16) : 0 ≤ costL c n l ∧ costL c n l ≤ n * 159984 := by
  induction n with
  | zero => rw [costL_zero]; omega
  | succ n ih =>
    rw [costL_succ]
    have h1 := h n (by omega)
    have h2 := ih fun i hi => h i (by omega)
    have h3 : 0 ≤ nth c n * ((l (n : Int) : Nat) : Int) := Int.mul_nonneg h1.1 (by omega)
    have h4 : nth c n * ((l (n : Int) : Nat) : Int) ≤ 9999 * 16 := Int.mul_le_mul h1.2 (by have := h16 (n : Int); omega) (by omega) (by omega)
    omega
/-- Has what comes no word? -/
def noneAt (c : List Int) (k : Nat) (L : List (Int × Nat × Nat)) : Bool := (List.range k).any fun i => decide (0 < nth c i) && decide (lw L (i : Int) = 0)
theorem noneAt_succ (c : List Int) (k : Nat) (L : List (Int × Nat × Nat)) : noneAt c (k + 1) L = (noneAt c k L || (decide (0 < nth c k) && decide (lw L (k : Int) = 0))) := by
  unfold noneAt; rw [List.range_succ, List.any_append]; simp
theorem noneAt_mono (c : List Int) (L : List (Int × Nat × Nat)) {k n : Nat} (h : k ≤ n) (hk : noneAt c k L = true) : noneAt c n L = true := by
  unfold noneAt at *
  rw [List.any_eq_true] at *
  obtain ⟨i, h1, h2⟩ := hk
  exact ⟨i, by simp at *; omega, h2⟩
/-- Cost's refusals, and what it gives. -/
def costE (C S c : List Int) : Int := if tabE C S ≠ 0 then tabE C S else if bE c ≠ 0 then bE c else if noneAt c c.length (wds C S) then 5 else 0
def costN (C S c : List Int) : Int := if costE C S c = 0 then costL c c.length (lw (wds C S)) else 0
set_option maxRecDepth 100000 in
set_option maxHeartbeats 8000000 in
theorem cost_any (w0 : World) (C S : List Int) (ad : Option Addr) (n cp : Nat) (hC : Len C 16) (hv : Sl w0 1 (.slice ad n cp) n (S.map (Value.int .i64))) (hn : n ≤ 9223372036854775807) (c : List Int) (ad2 : Option Addr) (n2 cp2 : Nat) (hv2 : Sl w0 1 (.slice ad2 n2 cp2) n2 (c.map (Value.int .i64))) (hn2 : n2 ≤ 9223372036854775807) :
    Calls Try.prog 12 #[tv C (.slice ad n cp), .slice ad2 n2 cp2] w0 fun e w => e = .returned (.tuple #[.int .i64 (costN C S c), .int .i64 (costE C S c)]) ∧ Ext w0 w := by
  have hS := St.start w0
  have hcl : c.length = n2 := by have := hv2.1; simpa using this
  have HW := hid (fun (w : World) (hE : Ext w0 w) => words_any w C S ad n cp hC (hv.ext hE) hn)
  have HCK := hid (fun (w : World) (hE : Ext w0 w) => bcheck_any w c ad2 n2 cp2 (hv2.ext hE) hn2)
  obtain ⟨E, hE⟩ : ∃ E, tabE C S = E := ⟨_, rfl⟩
  obtain ⟨B, hB⟩ : ∃ B, bE c = B := ⟨_, rfl⟩
  by_cases h0 : E = 0
  · subst h0
    by_cases h1 : B = 0
    · subst h1
      have HE := hid hE
      have HB := hid hB
      have HL := hid (wds_len C S (tabE_ok hE).2.1)
      obtain ⟨L, hL⟩ : ∃ L, wds C S = L := ⟨_, rfl⟩
      have H16 := hid (fun s : Int => show lw L s ≤ 16 by rw [← hL]; by_cases h : s ∈ S; exact ((lw_pos hE s).1 h).2; rw [(lw_pos hE s).2 h]; omega)
      have HPOS := hid (fun (s : Int) (y : Nat × Nat) (h : symW L s = some y) => show 1 ≤ lw L s by
        rw [← hL] at h ⊢
        have h2 := (wds_good hE).long _ (symW_mem h)
        have h3 := (lw_mem hE (symW_mem h)).2
        dsimp only at h2 h3
        omega)
      have hl256 := (tabE_ok hE).2.2.1
      have hLl : L.length = S.length := by rw [← hL]; exact HL.out
      have hL256 : L.length ≤ 256 := by omega
      have hc2 : n2 ≤ 256 ∧ ∀ i, i < n2 → 0 ≤ nth c i ∧ nth c i ≤ 9999 := by
        unfold bE at hB
        rw [hcl] at hB
        by_cases h : 256 < n2
        · rw [if_pos h] at hB; cases hB
        · rw [if_neg h] at hB
          by_cases h2 : allIn c 0 9999 = true
          · exact ⟨by omega, fun i hi => (allIn_iff c 0 9999).1 h2 i (by omega)⟩
          · rw [if_neg h2] at hB; cases hB
      obtain ⟨hn3, hc⟩ := hc2
      have HC := hid hc
      have HRES : Hid (costE C S c = if noneAt c n2 L then 5 else 0) := hid (by unfold costE; rw [HE.out, HB.out, hcl, hL]; rfl)
      have HRES2 : Hid (∀ b, noneAt c n2 L = b → costN C S c = if b then 0 else costL c n2 (lw L)) := hid (fun b hb => by
        unfold costN; rw [HRES.out, hb, hcl, hL]; cases b <;> rfl)
      have HWL : Hid (WordsGives w0 C S = WordsGives w0 C S) := hid rfl
      have HLL := hid hL
      have HLN := hid hLl
      clear hE hB hL hl256 hLl hc
      go_enter Try.func12, Try.ntmps12
      repeat' (first
        | ((with_reducible show wpList _ _ _ (⟨some 16, _, _, _, _, _⟩ :: _) _ _); refine wpl_call (f := 14) Try.call14 (by kernel_rfl) ?_; refine ⟨_, (HW.out _ hS.1), ?_⟩; rintro e w ⟨a2, n3, c3, hn4, rfl, hS2⟩; rw [if_pos HE.out] at hn4 hS2; rw [HE.out, HLL.out] at *; rw [← HLN.out] at hn4; subst hn4; replace hS := hS.call1 hS2; clear hS2; refine ⟨_, rfl, ?_⟩; refine put_move ?_; go_step)
        | ((with_reducible show wpList _ _ _ (⟨_, .move _, _, _, _, _⟩ :: _) _ _); (first | go_big_want | go_step); go_step)
        | ((with_reducible show wpList _ _ _ (⟨_, .assign _, _, _, _, _⟩ :: _) _ _); (first | go_big_want | go_step); go_step)
        | ((with_reducible show wpList _ _ _ (⟨_, .extract _ _, _, _, _, _⟩ :: _) _ _); (refine wplV _ (V.extract rfl rfl) (by kernel_rfl) ?_; go_step))
        | ((with_reducible show wpList _ _ _ (⟨_, .binOp .eql 27 _ _ _, _, _, _, _⟩ :: _) _ _); (refine wplV _ (V.eql rfl rfl) (by kernel_rfl) ?_; go_step))
        | ((with_reducible show wpList _ _ _ (⟨some 2, .box 25 _, _, _, _, _⟩ :: _) _ _); (refine wpl (by kernel_rfl) ?_; apply wp_boxP (o := ⟨some 2, _, _, _, _, _⟩) hS 25 _ rfl _ rfl; clear hS; intro g2 w hS; refine put_move ?_; go_step))
        | ((with_reducible show wpList _ _ _ (⟨_, .load 25 _, _, _, _, _⟩ :: _) _ _); (refine wpl (by kernel_rfl) ?_; apply wp_loadPP hS 25 _ rfl _ _ rfl 17 (row_of rfl) _; (case hp => (repeat (first | with_reducible exact Pull.head | apply Pull.tail))); (case hi => (repeat (first | (apply AtP.head; (repeat (first | exact Pre.nil | (apply Pre.ints; (case hn => (first | (with_reducible assumption) | exact Len.rep | exact Len.set (by with_reducible assumption) | exact Len.set Len.rep | exact Len.set (Len.set Len.rep))); (case h => omega); (case hm => rfl)) | apply Pre.val))) | (apply AtP.skipI; (case hn => (first | (with_reducible assumption) | exact Len.rep | exact Len.set (by with_reducible assumption) | exact Len.set Len.rep | exact Len.set (Len.set Len.rep))); (case h => omega); (case ho => rfl)) | apply AtP.skipV))); refine put_move ?_; go_step))
        | ((fail_if_success (with_reducible show wpList _ _ _ (_ :: _) _ _)); go_step))
      repeat' (first
        | ((with_reducible show wpList _ _ _ (⟨some 22, _, _, _, _, _⟩ :: _) _ _); refine wpl_call (f := 18) Try.call18 (by kernel_rfl) ?_; refine ⟨_, (HCK.out _ hS.1), ?_⟩; rintro e w ⟨rfl, hE2⟩; rw [HB.out]; replace hS := hS.ext hE2; clear hE2; refine ⟨_, rfl, ?_⟩; refine put_move ?_; go_step)
        | ((with_reducible show wpList _ _ _ (⟨_, .move _, _, _, _, _⟩ :: _) _ _); (first | go_big_want | go_step); go_step)
        | ((with_reducible show wpList _ _ _ (⟨_, .assign _, _, _, _, _⟩ :: _) _ _); (first | go_big_want | go_step); go_step)
        | ((with_reducible show wpList _ _ _ (⟨_, .binOp .neq 27 _ _ _, _, _, _, _⟩ :: _) _ _); (refine wplV _ (V.neq rfl rfl) (by kernel_rfl) ?_; go_step))
        | ((with_reducible show wpList _ _ _ (⟨some 26, .makeMap 46 _, _, _, _, _⟩ :: _) _ _); (refine wpl (by kernel_rfl) ?_; apply wp_makeMap (o := ⟨some 26, _, _, _, _, _⟩) ik hS 46 rfl; clear hS; intro g26 w hS; refine put_move ?_; go_step))
        | ((fail_if_success (with_reducible show wpList _ _ _ (_ :: _) _ _)); go_step))
      obtain ⟨m, hm⟩ : ∃ m, L.length = m := ⟨_, rfl⟩
      have HM := hid hm
      rw [hm] at hS hL256
      try rw [hm]
      clear hm
      repeat' (first
        | ((with_reducible show wpList _ _ _ (⟨_, .move _, _, _, _, _⟩ :: _) _ _); (first | go_big_want | go_step); go_step)
        | ((with_reducible show wpList _ _ _ (⟨_, .call ⟨.builtin .len, _, _⟩, _, _, _, _⟩ :: _) _ _); (refine wplV _ (V.len Try.underlying33 rfl) (by kernel_rfl) ?_; go_step))
        | ((fail_if_success (with_reducible show wpList _ _ _ (_ :: _) _ _)); go_step))
      go_loopg [29] m (fun gk kv w => ∃ (i : Nat), gk + i = m ∧ kv = .int .i64 i ∧ St w0 w [own 37 3 a2 m c3 ((wfl L).map (Value.int .i64)), mp ik g26 (lgF (L.take i)), prt g2 [.ints C, .val (.slice ad n cp)]])
      case atStart => exact ⟨0, rfl, rfl, (by rw [show lgF (L.take 0) = fun _ => none from rfl]; exact hS.sub (by (repeat (first | exact Sub.nil | with_reducible exact Sub.refl | (apply Sub.cons; (case p => (repeat (first | with_reducible exact Pull.head | apply Pull.tail)))) | apply Sub.skip))))⟩
      case round =>
        clear hS
        obtain ⟨i, hi, rfl, hS⟩ := hrel
        by_cases hlt : i < m
        · obtain ⟨b2, rfl⟩ := own_some hS (by (repeat (first | with_reducible exact Pull.head | apply Pull.tail))) (by omega)
          obtain ⟨⟨s, l, k⟩, hx⟩ : ∃ x, L[i]? = some x := ⟨_, List.getElem?_eq_getElem (by rw [HM.out]; exact hlt)⟩
          have hseg := wfl_get L i _ hx
          dsimp only at hseg
          have ht : L.take (i + 1) = L.take i ++ [(s, l, k)] := by rw [List.take_add_one, hx]; rfl
          have H1 := hid (lgF_snoc (L.take i) s l k)
          rw [← ht] at H1
          clear hx ht
          repeat' (first
            | ((with_reducible show wpList _ _ _ (⟨_, .move _, _, _, _, _⟩ :: _) _ _); (first | go_big_want | go_step); go_step)
            | ((with_reducible show wpList _ _ _ (⟨_, .binOp .lss _ _ _ _, _, _, _, _⟩ :: _) _ _); (refine wplV _ (V.lss rfl rfl) (by kernel_rfl) ?_; go_step))
            | ((with_reducible show wpList _ _ _ (⟨some 31, .indexAddr 33 _ _, _, _, _, _⟩ :: _) _ _); (refine wplV _ (V.indexSl Try.underlying33 isz37 rfl rfl (by (repeat (first | exact IsN.auto | with_reducible apply IsN.add | with_reducible apply IsN.sub | with_reducible apply IsN.mul | with_reducible apply IsN.div | with_reducible apply IsN.mod | with_reducible apply IsN.min | with_reducible apply IsN.max | (with_reducible show (_ : Nat) ≤ _; omega) | exact IsN.toNat (by omega)))) (by omega) rfl (by first | with_reducible exact Nat.zero_add _ | with_reducible exact Nat.add_zero _ | exact rfl)) (by kernel_rfl) ?_; go_step))
            | ((with_reducible show wpList _ _ _ (⟨_, .fieldAddr 37 _ 0, _, _, _, _⟩ :: _) _ _); (refine wplV _ (V.fieldAddr fo37_0 rfl (by first | with_reducible exact Nat.zero_add _ | with_reducible exact Nat.add_zero _ | exact rfl)) (by kernel_rfl) ?_; go_step))
            | ((with_reducible show wpList _ _ _ (⟨_, .fieldAddr 37 _ 1, _, _, _, _⟩ :: _) _ _); (refine wplV _ (V.fieldAddr fo37_1 rfl (by first | with_reducible exact Nat.zero_add _ | with_reducible exact Nat.add_zero _ | exact rfl)) (by kernel_rfl) ?_; go_step))
            | ((with_reducible show wpList _ _ _ (⟨_, .binOp .add _ _ _ _, _, _, _, _⟩ :: _) _ _); (refine wplV _ (V.addI rfl rfl (by omega)) (by kernel_rfl) ?_; go_step))
            | ((with_reducible show wpList _ _ _ (⟨_, .load 37 _, _, _, _, _⟩ :: _) _ _); (refine wpl (by kernel_rfl) ?_; apply wp_loadROE hS 37 _ rfl _ _ rfl 3 (row_of rfl) _ _ _ _ _; (case hp => (repeat (first | with_reducible exact Pull.head | apply Pull.tail))); (case hi => omega); (case hl' => with_reducible assumption); refine put_move ?_; go_step))
            | ((with_reducible show wpList _ _ _ (⟨some 10, .alloc 37, _, _, _, _⟩ :: _) _ _); (refine wpl (by kernel_rfl) ?_; apply wp_alloc (o := ⟨some 10, _, _, _, _, _⟩) hS 37 rfl (.agg #[.int .i64 0, .int .i64 0, .int .i64 0]) [.int .i64 0, .int .i64 0, .int .i64 0] (fun w => Try.zeroValue37 w) rfl; clear hS; intro g10 w hS; refine put_move ?_; go_step))
            | ((with_reducible show wpList _ _ _ (⟨_, .store 37 _ _, _, _, _, _⟩ :: _) _ _); (refine wpl (by kernel_rfl) ?_; apply wp_storeG hS 37 _ _ rfl _ rfl 3 (row_of rfl) _ _; (case hp => (repeat (first | with_reducible exact Pull.head | apply Pull.tail))); (case hy => rfl); (case hn => rfl); (case hn' => rfl); (case hv => rfl); (case hd => exact rfl); clear hS; intro w hS))
            | ((with_reducible show wpList _ _ _ (⟨_, .load 3 _, _, _, _, _⟩ :: _) _ _); (refine wpl (by kernel_rfl) ?_; apply wp_load1 hS 3 _ rfl _ _ rfl (one_of rfl) _; (case hp => (repeat (first | with_reducible exact Pull.head | apply Pull.tail))); (case hc => rfl); refine put_move ?_; go_step))
            | ((with_reducible show wpList _ _ _ (⟨_, .mapUpdate 46 _ _ _, _, _, _, _⟩ :: _) _ _); (refine wpl (by kernel_rfl) ?_; apply wp_mapUpdate (enc := ik) hS 46 _ _ _ rfl _ rfl _ rfl Try.underlying46 (keyLaw_int Try.underlying3) _; (case hp => (repeat (first | with_reducible exact Pull.head | apply Pull.tail))); (case hv => (first | exact IsV.int rfl | exact IsV.bool rfl | exact IsV.slice rfl | exact IsV.pointer rfl | exact IsV.string rfl | exact IsV.map rfl | exact IsV.func rfl | exact IsV.agg rfl)); (case hd => exact rfl); clear hS; intro w hS))
            | ((fail_if_success (with_reducible show wpList _ _ _ (_ :: _) _ _)); go_step))
          go_roundg (gk - 1)
          case measure => omega
          case rel =>
            refine ⟨i + 1, by omega, by go_num, ?_⟩
            rw [← H1.out]
            exact hS.sub (by (repeat (first | exact Sub.nil | with_reducible exact Sub.refl | (apply Sub.cons; (case p => (repeat (first | with_reducible exact Pull.head | apply Pull.tail)))) | apply Sub.skip)))
        · obtain rfl : i = m := by omega
          rw [show L.take i = L by rw [← HM.out]; exact List.take_length] at hS
          repeat' (first
            | ((with_reducible show wpList _ _ _ (⟨_, .move _, _, _, _, _⟩ :: _) _ _); (first | go_big_want | go_step); go_step)
            | ((with_reducible show wpList _ _ _ (⟨_, .assign _, _, _, _, _⟩ :: _) _ _); (first | go_big_want | go_step); go_step)
            | ((with_reducible show wpList _ _ _ (⟨_, .binOp .lss _ _ _ _, _, _, _, _⟩ :: _) _ _); (refine wplV _ (V.lss rfl rfl) (by kernel_rfl) ?_; go_step))
            | ((with_reducible show wpList _ _ _ (⟨_, .call ⟨.builtin .len, _, _⟩, _, _, _, _⟩ :: _) _ _); (refine wplV _ (V.len Try.underlying23 rfl) (by kernel_rfl) ?_; go_step))
            | ((fail_if_success (with_reducible show wpList _ _ _ (_ :: _) _ _)); go_step))
          clear hlt hi
          go_loopg [11, 41] n2 (fun gk av kv w => ∃ (i : Nat) (A : Int), gk + i = n2 ∧ kv = .int .i64 i ∧ av = .int .i64 A ∧ Hid (A = costL c i (lw L)) ∧ Hid (noneAt c i L = false) ∧ St w0 w [mp ik g26 (lgF L), prt g2 [.ints C, .val (.slice ad n cp)]])
          case atStart => exact ⟨0, 0, rfl, rfl, rfl, hid rfl, hid rfl, hS.sub (by (repeat (first | exact Sub.nil | with_reducible exact Sub.refl | (apply Sub.cons; (case p => (repeat (first | with_reducible exact Pull.head | apply Pull.tail)))) | apply Sub.skip)))⟩
          case round =>
            clear hS
            obtain ⟨i, A, hi, rfl, rfl, HA, HN, hS⟩ := hrel
            by_cases hlt : i < n2
            · have hci := HC.out i hlt
              have hbd := costL_bd (l := lw L) (n := i) (fun j hj => HC.out j (by omega)) H16.out
              rw [← HA.out] at hbd
              obtain ⟨x, hx⟩ : ∃ x, nth c i = x := ⟨_, rfl⟩
              have HX := hid hx
              clear hv
              rw [hx] at hci
              have HS1 := hid (costL_succ c i (lw L))
              have HN1 := hid (noneAt_succ c i L)
              rw [hx] at HS1 HN1
              rcases hw : symW L (i : Int) with _ | y
              · obtain ⟨hf, hl0⟩ := lgF_none hw
                have HL0 := hid hl0
                clear hl0 hw
                by_cases hx0 : 0 < x
                · have HNB := hid (noneAt_mono c L (show i + 1 ≤ n2 by omega) (by rw [HN1.out, HL0.out]; simp [hx0]))
                  clear hx
                  repeat' (first
                    | ((with_reducible show wpList _ _ _ (⟨_, .move _, _, _, _, _⟩ :: _) _ _); (first | go_big_want | go_step); go_step)
                    | ((with_reducible show wpList _ _ _ (⟨_, .assign _, _, _, _, _⟩ :: _) _ _); (first | go_big_want | go_step); go_step)
                    | ((with_reducible show wpList _ _ _ (⟨_, .binOp .lss _ _ _ _, _, _, _, _⟩ :: _) _ _); (refine wplV _ (V.lss rfl rfl) (by kernel_rfl) ?_; go_step))
                    | ((with_reducible show wpList _ _ _ (⟨some 44, .indexAddr 23 _ _, _, _, _, _⟩ :: _) _ _); (refine wpl_indexI (by with_reducible assumption) Try.underlying23 isz3 rfl rfl (by (repeat (first | exact IsN.auto | with_reducible apply IsN.add | with_reducible apply IsN.sub | with_reducible apply IsN.mul | with_reducible apply IsN.div | with_reducible apply IsN.mod | with_reducible apply IsN.min | with_reducible apply IsN.max | (with_reducible show (_ : Nat) ≤ _; omega) | exact IsN.toNat (by omega)))) (by omega) rfl ?_; intro b44 o44 hc44; go_step))
                    | ((with_reducible show wpList _ _ _ (⟨_, .load 3 _, _, _, _, _⟩ :: _) _ _); (refine wpl (by kernel_rfl) ?_; apply wp_loadW hS 3 _ rfl _ rfl (one_of rfl) _; (case hc => with_reducible assumption); refine put_move ?_; go_step))
                    | ((fail_if_success (with_reducible show wpList _ _ _ (_ :: _) _ _)); go_step))
                  rw [HX.out]
                  repeat' (first
                    | ((with_reducible show wpList _ _ _ (⟨_, .move _, _, _, _, _⟩ :: _) _ _); (first | go_big_want | go_step); go_step)
                    | ((with_reducible show wpList _ _ _ (⟨_, .assign _, _, _, _, _⟩ :: _) _ _); (first | go_big_want | go_step); go_step)
                    | ((with_reducible show wpList _ _ _ (⟨_, .pick _ _ _, _, _, _, _⟩ :: _) _ _); (refine wplPickT rfl (by kernel_rfl) ?_; go_step))
                    | ((with_reducible show wpList _ _ _ (⟨some 47, .binOp .gtr _ _ _ _, _, _, _, _⟩ :: _) _ _); (refine wplD _ (V.gtr rfl rfl) (by kernel_rfl) (fun hB => ?_) (fun hB => ?_) <;> (try (have hF : False := (by omega); cases hF)) <;> go_step))
                    | ((with_reducible show wpList _ _ _ (⟨_, .binOp .eql 3 _ _ _, _, _, _, _⟩ :: _) _ _); (refine wplV _ (V.eql rfl rfl) (by kernel_rfl) ?_; go_step))
                    | ((with_reducible show wpList _ _ _ (⟨some 51, .lookup 46 _ _ _, _, _, _, _⟩ :: _) _ _); (refine wpl (by kernel_rfl) ?_; apply wp_lookupN (enc := ik) hS 46 _ _ rfl _ rfl _ rfl Try.underlying46 (keyLaw_int Try.underlying3) (.int .i64 0) (fun w => Try.zeroValue3 w) _; (case hp => (repeat (first | with_reducible exact Pull.head | apply Pull.tail))); (case hf => with_reducible assumption); refine put_move ?_; go_step))
                    | ((fail_if_success (with_reducible show wpList _ _ _ (_ :: _) _ _)); go_step))
                  have HR1 := HRES.out
                  have HR2 := HRES2.out _ HNB.out
                  rw [HNB.out] at HR1
                  refine ret_all (xs := [_, _]) rfl (.cons (OneRes.tmp rfl) (.cons (OneRes.tmp rfl) (.nil))) (by simp) rfl ?_
                  refine ⟨?_, hS.1⟩
                  rw [HR1, HR2]
                  rfl
                · obtain rfl : x = 0 := by omega
                  clear hx
                  repeat' (first
                    | ((with_reducible show wpList _ _ _ (⟨_, .move _, _, _, _, _⟩ :: _) _ _); (first | go_big_want | go_step); go_step)
                    | ((with_reducible show wpList _ _ _ (⟨_, .assign _, _, _, _, _⟩ :: _) _ _); (first | go_big_want | go_step); go_step)
                    | ((with_reducible show wpList _ _ _ (⟨_, .binOp .lss _ _ _ _, _, _, _, _⟩ :: _) _ _); (refine wplV _ (V.lss rfl rfl) (by kernel_rfl) ?_; go_step))
                    | ((with_reducible show wpList _ _ _ (⟨some 44, .indexAddr 23 _ _, _, _, _, _⟩ :: _) _ _); (refine wpl_indexI (by with_reducible assumption) Try.underlying23 isz3 rfl rfl (by (repeat (first | exact IsN.auto | with_reducible apply IsN.add | with_reducible apply IsN.sub | with_reducible apply IsN.mul | with_reducible apply IsN.div | with_reducible apply IsN.mod | with_reducible apply IsN.min | with_reducible apply IsN.max | (with_reducible show (_ : Nat) ≤ _; omega) | exact IsN.toNat (by omega)))) (by omega) rfl ?_; intro b44 o44 hc44; go_step))
                    | ((with_reducible show wpList _ _ _ (⟨_, .load 3 _, _, _, _, _⟩ :: _) _ _); (refine wpl (by kernel_rfl) ?_; apply wp_loadW hS 3 _ rfl _ rfl (one_of rfl) _; (case hc => with_reducible assumption); refine put_move ?_; go_step))
                    | ((fail_if_success (with_reducible show wpList _ _ _ (_ :: _) _ _)); go_step))
                  rw [HX.out]
                  repeat' (first
                    | go_big_skip
                    | ((with_reducible show wpList _ _ _ (⟨_, .move _, _, _, _, _⟩ :: _) _ _); (first | go_big_want | go_step); go_step)
                    | ((with_reducible show wpList _ _ _ (⟨_, .assign _, _, _, _, _⟩ :: _) _ _); (first | go_big_want | go_step); go_step)
                    | ((with_reducible show wpList _ _ _ (⟨_, .pick _ _ _, _, _, _, _⟩ :: _) _ _); (refine wplPickF rfl (by kernel_rfl) ?_; go_step))
                    | ((with_reducible show wpList _ _ _ (⟨some 47, .binOp .gtr _ _ _ _, _, _, _, _⟩ :: _) _ _); (refine wplD _ (V.gtr rfl rfl) (by kernel_rfl) (fun hB => ?_) (fun hB => ?_) <;> (try (have hF : False := (by omega); cases hF)) <;> go_step))
                    | ((with_reducible show wpList _ _ _ (⟨_, .binOp .mul _ _ _ _, _, _, _, _⟩ :: _) _ _); (refine wplV _ (V.mulI rfl rfl (by omega)) (by kernel_rfl) ?_; go_step))
                    | ((with_reducible show wpList _ _ _ (⟨_, .binOp .add _ _ _ _, _, _, _, _⟩ :: _) _ _); (refine wplV _ (V.addI rfl rfl (by omega)) (by kernel_rfl) ?_; go_step))
                    | ((with_reducible show wpList _ _ _ (⟨some 58, .lookup 46 _ _ _, _, _, _, _⟩ :: _) _ _); (refine wpl (by kernel_rfl) ?_; apply wp_lookupN (enc := ik) hS 46 _ _ rfl _ rfl _ rfl Try.underlying46 (keyLaw_int Try.underlying3) (.int .i64 0) (fun w => Try.zeroValue3 w) _; (case hp => (repeat (first | with_reducible exact Pull.head | apply Pull.tail))); (case hf => with_reducible assumption); refine put_move ?_; go_step))
                    | ((fail_if_success (with_reducible show wpList _ _ _ (_ :: _) _ _)); go_step))
                  go_roundg (gk - 1)
                  case measure => omega
                  case rel =>
                    refine ⟨i + 1, _, by omega, by go_num, rfl, ?_, ?_, hS.sub (by (repeat (first | exact Sub.nil | with_reducible exact Sub.refl | (apply Sub.cons; (case p => (repeat (first | with_reducible exact Pull.head | apply Pull.tail)))) | apply Sub.skip)))⟩
                    · exact hid (by rw [HS1.out, ← HA.out]; omega)
                    · exact hid (by rw [HN1.out, HN.out]; simp)
              · have hf := lgF_some hw
                have h16 := H16.out (i : Int)
                have hpos := HPOS.out _ _ hw
                obtain ⟨z, hz⟩ : ∃ z, lw L (i : Int) = z := ⟨_, rfl⟩
                rw [hz] at hf h16 hpos HS1 HN1
                clear hz hw hx
                have hmul : 0 ≤ x * z ∧ x * z ≤ 9999 * 16 := ⟨Int.mul_nonneg hci.1 (by omega), Int.mul_le_mul hci.2 (by omega) (by omega) (by omega)⟩
                repeat' (first
                  | ((with_reducible show wpList _ _ _ (⟨_, .move _, _, _, _, _⟩ :: _) _ _); (first | go_big_want | go_step); go_step)
                  | ((with_reducible show wpList _ _ _ (⟨_, .assign _, _, _, _, _⟩ :: _) _ _); (first | go_big_want | go_step); go_step)
                  | ((with_reducible show wpList _ _ _ (⟨_, .binOp .lss _ _ _ _, _, _, _, _⟩ :: _) _ _); (refine wplV _ (V.lss rfl rfl) (by kernel_rfl) ?_; go_step))
                  | ((with_reducible show wpList _ _ _ (⟨some 44, .indexAddr 23 _ _, _, _, _, _⟩ :: _) _ _); (refine wpl_indexI (by with_reducible assumption) Try.underlying23 isz3 rfl rfl (by (repeat (first | exact IsN.auto | with_reducible apply IsN.add | with_reducible apply IsN.sub | with_reducible apply IsN.mul | with_reducible apply IsN.div | with_reducible apply IsN.mod | with_reducible apply IsN.min | with_reducible apply IsN.max | (with_reducible show (_ : Nat) ≤ _; omega) | exact IsN.toNat (by omega)))) (by omega) rfl ?_; intro b44 o44 hc44; go_step))
                  | ((with_reducible show wpList _ _ _ (⟨_, .load 3 _, _, _, _, _⟩ :: _) _ _); (refine wpl (by kernel_rfl) ?_; apply wp_loadW hS 3 _ rfl _ rfl (one_of rfl) _; (case hc => with_reducible assumption); refine put_move ?_; go_step))
                  | ((fail_if_success (with_reducible show wpList _ _ _ (_ :: _) _ _)); go_step))
                rw [HX.out]
                repeat' (first
                  | go_big_skip
                  | ((with_reducible show wpList _ _ _ (⟨_, .move _, _, _, _, _⟩ :: _) _ _); (first | go_big_want | go_step); go_step)
                  | ((with_reducible show wpList _ _ _ (⟨_, .assign _, _, _, _, _⟩ :: _) _ _); (first | go_big_want | go_step); go_step)
                  | ((with_reducible show wpList _ _ _ (⟨_, .pick _ _ _, _, _, _, _⟩ :: _) _ _); first | (refine wplPickT rfl (by kernel_rfl) ?_; go_step) | (refine wplPickF rfl (by kernel_rfl) ?_; go_step))
                  | ((with_reducible show wpList _ _ _ (⟨some 47, .binOp .gtr _ _ _ _, _, _, _, _⟩ :: _) _ _); (refine wplD _ (V.gtr rfl rfl) (by kernel_rfl) (fun hB => ?_) (fun hB => ?_) <;> (try (have hF : False := (by omega); cases hF)) <;> go_step))
                  | ((with_reducible show wpList _ _ _ (⟨_, .binOp .eql 3 _ _ _, _, _, _, _⟩ :: _) _ _); (refine wplV _ (V.eql rfl rfl) (by kernel_rfl) ?_; go_step))
                  | ((with_reducible show wpList _ _ _ (⟨_, .binOp .mul _ _ _ _, _, _, _, _⟩ :: _) _ _); (refine wplV _ (V.mulI rfl rfl (by omega)) (by kernel_rfl) ?_; go_step))
                  | ((with_reducible show wpList _ _ _ (⟨_, .binOp .add _ _ _ _, _, _, _, _⟩ :: _) _ _); (refine wplV _ (V.addI rfl rfl (by omega)) (by kernel_rfl) ?_; go_step))
                  | ((with_reducible show wpList _ _ _ (⟨some 51, .lookup 46 _ _ _, _, _, _, _⟩ :: _) _ _); (refine wpl (by kernel_rfl) ?_; apply wp_lookupS (enc := ik) hS 46 _ _ rfl _ rfl _ rfl Try.underlying46 (keyLaw_int Try.underlying3) (.int .i64 0) (fun w => Try.zeroValue3 w) _; (case hp => (repeat (first | with_reducible exact Pull.head | apply Pull.tail))); (case hf => with_reducible assumption); refine put_move ?_; go_step))
                  | ((with_reducible show wpList _ _ _ (⟨some 58, .lookup 46 _ _ _, _, _, _, _⟩ :: _) _ _); (refine wpl (by kernel_rfl) ?_; apply wp_lookupS (enc := ik) hS 46 _ _ rfl _ rfl _ rfl Try.underlying46 (keyLaw_int Try.underlying3) (.int .i64 0) (fun w => Try.zeroValue3 w) _; (case hp => (repeat (first | with_reducible exact Pull.head | apply Pull.tail))); (case hf => with_reducible assumption); refine put_move ?_; go_step))
                  | ((fail_if_success (with_reducible show wpList _ _ _ (_ :: _) _ _)); go_step))
                all_goals
                  go_roundg (gk - 1)
                  case measure => omega
                  case rel =>
                    refine ⟨i + 1, _, by omega, by go_num, rfl, ?_, ?_, hS.sub (by (repeat (first | exact Sub.nil | with_reducible exact Sub.refl | (apply Sub.cons; (case p => (repeat (first | with_reducible exact Pull.head | apply Pull.tail)))) | apply Sub.skip)))⟩
                    · exact hid (by rw [HS1.out, ← HA.out])
                    · exact hid (by rw [HN1.out, HN.out]; simp; omega)
            · obtain rfl : i = n2 := by omega
              repeat' (first
                | ((with_reducible show wpList _ _ _ (⟨_, .move _, _, _, _, _⟩ :: _) _ _); (first | go_big_want | go_step); go_step)
                | ((with_reducible show wpList _ _ _ (⟨_, .assign _, _, _, _, _⟩ :: _) _ _); (first | go_big_want | go_step); go_step)
                | ((with_reducible show wpList _ _ _ (⟨_, .binOp .lss _ _ _ _, _, _, _, _⟩ :: _) _ _); (refine wplV _ (V.lss rfl rfl) (by kernel_rfl) ?_; go_step))
                | ((fail_if_success (with_reducible show wpList _ _ _ (_ :: _) _ _)); go_step))
              have HR1 := HRES.out
              have HR2 := HRES2.out _ HN.out
              rw [HN.out] at HR1
              refine ret_all (xs := [_, _]) rfl (.cons (OneRes.tmp rfl) (.cons (OneRes.tmp rfl) (.nil))) (by simp) rfl ?_
              refine ⟨?_, hS.1⟩
              rw [HR1, HR2, HA.out]
              rfl
    · have HE := hid hE
      have HB := hid hB
      have HH := hid (show costE C S c = B ∧ costN C S c = 0 by
        have e : costE C S c = B := by unfold costE; rw [if_neg (by rw [hE]; omega), if_pos (by rw [hB]; exact h1), hB]
        exact ⟨e, by unfold costN; rw [e, if_neg h1]⟩)
      clear hE hB
      go_enter Try.func12, Try.ntmps12
      repeat' (first
        | ((with_reducible show wpList _ _ _ (⟨some 16, _, _, _, _, _⟩ :: _) _ _); refine wpl_call (f := 14) Try.call14 (by kernel_rfl) ?_; refine ⟨_, (HW.out _ hS.1), ?_⟩; rintro e w ⟨a2, n3, c3, hn4, rfl, hS2⟩; rw [HE.out]; replace hS := St.of_ext (hS.call1 hS2).1; clear hS2 hn4; refine ⟨_, rfl, ?_⟩; refine put_move ?_; go_step)
        | ((with_reducible show wpList _ _ _ (⟨_, .move _, _, _, _, _⟩ :: _) _ _); (first | go_big_want | go_step); go_step)
        | ((with_reducible show wpList _ _ _ (⟨_, .assign _, _, _, _, _⟩ :: _) _ _); (first | go_big_want | go_step); go_step)
        | ((with_reducible show wpList _ _ _ (⟨_, .extract _ _, _, _, _, _⟩ :: _) _ _); (refine wplV _ (V.extract rfl rfl) (by kernel_rfl) ?_; go_step))
        | ((with_reducible show wpList _ _ _ (⟨_, .binOp .eql 27 _ _ _, _, _, _, _⟩ :: _) _ _); (refine wplV _ (V.eql rfl rfl) (by kernel_rfl) ?_; go_step))
        | ((with_reducible show wpList _ _ _ (⟨some 2, .box 25 _, _, _, _, _⟩ :: _) _ _); (refine wpl (by kernel_rfl) ?_; apply wp_boxP (o := ⟨some 2, _, _, _, _, _⟩) hS 25 _ rfl _ rfl; clear hS; intro g2 w hS; refine put_move ?_; go_step))
        | ((with_reducible show wpList _ _ _ (⟨_, .load 25 _, _, _, _, _⟩ :: _) _ _); (refine wpl (by kernel_rfl) ?_; apply wp_loadPP hS 25 _ rfl _ _ rfl 17 (row_of rfl) _; (case hp => (repeat (first | with_reducible exact Pull.head | apply Pull.tail))); (case hi => (repeat (first | (apply AtP.head; (repeat (first | exact Pre.nil | (apply Pre.ints; (case hn => (first | (with_reducible assumption) | exact Len.rep | exact Len.set (by with_reducible assumption) | exact Len.set Len.rep | exact Len.set (Len.set Len.rep))); (case h => omega); (case hm => rfl)) | apply Pre.val))) | (apply AtP.skipI; (case hn => (first | (with_reducible assumption) | exact Len.rep | exact Len.set (by with_reducible assumption) | exact Len.set Len.rep | exact Len.set (Len.set Len.rep))); (case h => omega); (case ho => rfl)) | apply AtP.skipV))); refine put_move ?_; go_step))
        | ((fail_if_success (with_reducible show wpList _ _ _ (_ :: _) _ _)); go_step))
      repeat' (first
        | ((with_reducible show wpList _ _ _ (⟨some 22, _, _, _, _, _⟩ :: _) _ _); refine wpl_call (f := 18) Try.call18 (by kernel_rfl) ?_; refine ⟨_, (HCK.out _ hS.1), ?_⟩; rintro e w ⟨rfl, hE2⟩; rw [HB.out]; replace hS := hS.ext hE2; clear hE2; refine ⟨_, rfl, ?_⟩; refine put_move ?_; go_step)
        | ((with_reducible show wpList _ _ _ (⟨_, .move _, _, _, _, _⟩ :: _) _ _); (first | go_big_want | go_step); go_step)
        | ((with_reducible show wpList _ _ _ (⟨_, .assign _, _, _, _, _⟩ :: _) _ _); (first | go_big_want | go_step); go_step)
        | ((with_reducible show wpList _ _ _ (⟨_, .binOp .neq 27 _ _ _, _, _, _, _⟩ :: _) _ _); (refine wplV _ (V.neq rfl rfl) (by kernel_rfl) ?_; go_step))
        | ((fail_if_success (with_reducible show wpList _ _ _ (_ :: _) _ _)); go_step))
      refine ret_all (xs := [_, _]) rfl (.cons (OneRes.tmp rfl) (.cons (OneRes.tmp rfl) (.nil))) (by simp) rfl ?_
      refine ⟨?_, hS.1⟩
      rw [HH.out.1, HH.out.2]
      rfl
  · have HE := hid hE
    have HH := hid (show costE C S c = E ∧ costN C S c = 0 by
      have e : costE C S c = E := by unfold costE; rw [if_pos (by rw [hE]; exact h0), hE]
      exact ⟨e, by unfold costN; rw [e, if_neg h0]⟩)
    clear hE hB
    go_enter Try.func12, Try.ntmps12
    repeat' (first
      | ((with_reducible show wpList _ _ _ (⟨some 16, _, _, _, _, _⟩ :: _) _ _); refine wpl_call (f := 14) Try.call14 (by kernel_rfl) ?_; refine ⟨_, (HW.out _ hS.1), ?_⟩; rintro e w ⟨a2, n3, c3, hn4, rfl, hS2⟩; rw [HE.out]; replace hS := St.of_ext (hS.call1 hS2).1; clear hS2 hn4; refine ⟨_, rfl, ?_⟩; refine put_move ?_; go_step)
      | ((with_reducible show wpList _ _ _ (⟨_, .move _, _, _, _, _⟩ :: _) _ _); (first | go_big_want | go_step); go_step)
      | ((with_reducible show wpList _ _ _ (⟨_, .assign _, _, _, _, _⟩ :: _) _ _); (first | go_big_want | go_step); go_step)
      | ((with_reducible show wpList _ _ _ (⟨_, .extract _ _, _, _, _, _⟩ :: _) _ _); (refine wplV _ (V.extract rfl rfl) (by kernel_rfl) ?_; go_step))
      | ((with_reducible show wpList _ _ _ (⟨_, .binOp .eql 27 _ _ _, _, _, _, _⟩ :: _) _ _); (refine wplV _ (V.eql rfl rfl) (by kernel_rfl) ?_; go_step))
      | ((with_reducible show wpList _ _ _ (⟨_, .binOp .neq 27 _ _ _, _, _, _, _⟩ :: _) _ _); (refine wplV _ (V.neq rfl rfl) (by kernel_rfl) ?_; go_step))
      | ((with_reducible show wpList _ _ _ (⟨some 2, .box 25 _, _, _, _, _⟩ :: _) _ _); (refine wpl (by kernel_rfl) ?_; apply wp_boxP (o := ⟨some 2, _, _, _, _, _⟩) hS 25 _ rfl _ rfl; clear hS; intro g2 w hS; refine put_move ?_; go_step))
      | ((with_reducible show wpList _ _ _ (⟨_, .load 25 _, _, _, _, _⟩ :: _) _ _); (refine wpl (by kernel_rfl) ?_; apply wp_loadPP hS 25 _ rfl _ _ rfl 17 (row_of rfl) _; (case hp => (repeat (first | with_reducible exact Pull.head | apply Pull.tail))); (case hi => (repeat (first | (apply AtP.head; (repeat (first | exact Pre.nil | (apply Pre.ints; (case hn => (first | (with_reducible assumption) | exact Len.rep | exact Len.set (by with_reducible assumption) | exact Len.set Len.rep | exact Len.set (Len.set Len.rep))); (case h => omega); (case hm => rfl)) | apply Pre.val))) | (apply AtP.skipI; (case hn => (first | (with_reducible assumption) | exact Len.rep | exact Len.set (by with_reducible assumption) | exact Len.set Len.rep | exact Len.set (Len.set Len.rep))); (case h => omega); (case ho => rfl)) | apply AtP.skipV))); refine put_move ?_; go_step))
      | ((fail_if_success (with_reducible show wpList _ _ _ (_ :: _) _ _)); go_step))
    refine ret_all (xs := [_, _]) rfl (.cons (OneRes.tmp rfl) (.cons (OneRes.tmp rfl) (.nil))) (by simp) rfl ?_
    refine ⟨?_, hS.1⟩
    rw [HH.out.1, HH.out.2]
    rfl
end Go.Proofs.Ytembekkanggciaa
