/- The walks of ones and coarse, the closed fact of the laws on quantization. -/
import Derived.Test.YtbihmbkkoidnbaaQuant2
import Derived.Test.YtbihmbkkoidnbaaOpenBlock
namespace Go.Proofs.Ytbihmbkkoidnbaa
open Go.RowKit
/-- A block of one number. -/
def rep (n : Int) : List Int := List.replicate 64 n
theorem rep_len (n : Int) : (rep n).length = 64 := List.length_replicate
theorem rep_get (n : Int) (i : Nat) (h : i < 64) : nth (rep n) i = n := by unfold nth rep; rw [List.getD_eq_getElem?_getD, List.getElem?_replicate, if_pos h]; rfl
theorem fill_set (n : Int) (i : Nat) (h : i < 64) : (List.replicate i n ++ List.replicate (64 - i) 0).set i n = List.replicate (i + 1) n ++ List.replicate (64 - (i + 1)) 0 := by
  have h1 := filling_set (List.replicate 64 n) i (by simpa using h)
  have e : nth (List.replicate 64 n) i = n := by unfold nth; rw [List.getD_eq_getElem?_getD, List.getElem?_replicate, if_pos h]; rfl
  have t : ∀ k, k ≤ 64 → (List.replicate 64 n).take k = List.replicate k n := fun k hk => by rw [List.take_replicate]; congr 1; omega
  simp only [filling, e, List.length_replicate, t i (by omega), t (i + 1) (by omega)] at h1
  exact h1
set_option maxRecDepth 100000 in
set_option maxHeartbeats 1000000 in
theorem ones_any (w : World) (n : Int) : Calls Try.prog 18 #[.int .i64 n] w fun e w' => e = .returned (.agg (iv (rep n))) ∧ Ext w w' := by
  have HI := hid (show (Try.prog.info? 23).map (·.size) = some (rep n).length by rw [rep_len]; kernel_rfl)
  go_enter Try.func18, Try.ntmps18
  go_wp2_with (refine wpList_alloc_iv rfl 23 rfl zeros (fun w => Try.zeroValue23 w) ?_; intro w1 hR hE hz)
  go_loopg [4] 64 (fun gk xv wr => ∃ (i : Nat), gk + i = 64 ∧ xv = .int .i64 i ∧ Row wr w.heap.size (List.replicate i n ++ List.replicate (64 - i) 0) ∧ Ext w wr)
  case atStart => exact ⟨0, rfl, rfl, hR, hE⟩
  case round =>
    clear hR hE
    obtain ⟨i, hi, rfl, hR, hE⟩ := hrel
    by_cases hlt : i < 64
    · have hcell := hR.cell i (by simp; omega)
      have hfree := hR.free i
      have h1 := hR.set i n
      rw [fill_set n i hlt] at h1
      have HR := hid h1
      have HE := hid (hE.setCell (a := ⟨w.heap.size, i, none⟩) (Nat.le_refl _) (.int .i64 n))
      have HM : Hid (gk - 1 + (i + 1) = 64) := by unfold Hid; omega
      have HG : Hid (gk - 1 < gk) := by unfold Hid; omega
      clear hi h1 hR hE
      go_wp2_with fail
      go_roundg (gk - 1)
      case measure => exact HG.out
      case rel => exact ⟨i + 1, HM.out, by go_num, HR.out, HE.out⟩
    · obtain rfl : i = 64 := by omega
      have hR' : Row wr w.heap.size (rep n) := by have h := hR; rw [Nat.sub_self, List.replicate_zero, List.append_nil] at h; exact h
      have HSelf := hid (show wr.setRow w.heap.size (iv (rep n)) = wr by obtain ⟨t, h⟩ := hR'; exact setRow_self wr w.heap.size _ t _ h)
      clear hR
      go_wp2_with (first
        | (refine wpList_load_iv rfl 23 _ rfl w.heap.size rfl (rep n) _ hR' Try.underlying23 rfl HI.out ?_)
        | (refine wpList_store_iv rfl 23 _ _ rfl w.heap.size rfl (rep n) (rep n) rfl hR' HI.out rfl ?_; rw [HSelf.out]))
      obtain ⟨t, h⟩ := hR'
      refine bodyPost_ret (results_cell_row rfl _ wr w.heap.size t (iv (rep n)) (0, 0) _ rfl h Try.underlying23 rfl (by rw [HI.out, iv_size])) rfl ?_
      exact ⟨rfl, hE⟩
def sevens : List Int := 7 :: -7 :: List.replicate 62 0
set_option maxRecDepth 100000 in
set_option maxHeartbeats 1000000 in
theorem coarse_any (w : World) : Calls Try.prog 15 #[] w fun e w' => e = .returned (.bool true) ∧ Ext w w' := by
  have f1 : downE sevens (rep 2) = 0 := by decide +kernel
  have f2 : nth (downR sevens (rep 2)) 0 = 4 := by decide +kernel
  have f3 : nth (downR sevens (rep 2)) 1 = -4 := by decide +kernel
  have f4 : qOk zeros = false := by decide +kernel
  have HIr := hid (show (Try.prog.info? 23).map (·.size) = some (downR sevens (rep 2)).length by rw [downR_len _ _ rfl (rep_len 2)]; kernel_rfl)
  have HL := hid (show zeros.length = (downR sevens (rep 2)).length by rw [downR_len _ _ rfl (rep_len 2)]; rfl)
  have F1 := hid f1
  have F2 := hid f2
  have F3 := hid f3
  have F4 := hid f4
  clear f1 f2 f3 f4
  have hE : Ext w w := Ext.refl w
  go_enter Try.func15, Try.ntmps15
  go_wp2_with (first
    | (go_at_call 18; refine (ones_any _ 2).mono ?_; rintro e w' ⟨rfl, hE2⟩; replace hE := hE.trans hE2; clear hE2)
    | (go_at_call 17; refine (down_any _ sevens (rep 2) rfl (rep_len 2)).mono ?_; rintro e w' ⟨rfl, hE2⟩; rw [F1.out]; replace hE := hE.trans hE2; clear hE2)
    | (refine wpList_alloc_iv rfl 23 rfl zeros (fun w => Try.zeroValue23 w) ?_; intro w1 hR hE2 hz; have hsz := hE.sz; replace hE := hE.trans hE2; clear hE2)
    | (refine wpList_store_iv rfl 23 _ _ rfl _ rfl (downR sevens (rep 2)) zeros rfl hR HIr.out HL.out ?_; replace hR := hR.setRow (downR sevens (rep 2)); replace hE := hE.setRow hsz (iv (downR sevens (rep 2))); have c0 := hR.cell 0 (by rw [← HL.out]; decide); have c1 := hR.cell 1 (by rw [← HL.out]; decide); rw [F2.out] at c0; rw [F3.out] at c1)
    | (go_at_call 21; refine (qcheck_any _ zeros rfl).mono ?_; rintro e w' ⟨rfl, hE2⟩; rw [F4.out]; replace hE := hE.trans hE2; clear hE2))
  go_ret
  exact ⟨rfl, hE⟩
end Go.Proofs.Ytbihmbkkoidnbaa
