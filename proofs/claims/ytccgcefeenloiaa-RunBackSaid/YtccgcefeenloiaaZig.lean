/- The walks of zig.order, Order, To, From. -/
import Derived.Test.YtccgcefeenloiaaProg
import Derived.Test.YtccgcefeenloiaaArr
namespace Go.Proofs.Ytccgcefeenloiaa
open Go.RowKit
/-- The state of the zigzag order: row, column, whether it goes up. -/
def zstep (s : Int × Int × Bool) : Int × Int × Bool :=
  if s.2.2 = true ∧ s.2.1 = 7 then (s.1 + 1, s.2.1, false)
  else if s.2.2 = true ∧ s.1 = 0 then (s.1, s.2.1 + 1, false)
  else if s.2.2 = true then (s.1 - 1, s.2.1 + 1, true)
  else if s.1 = 7 then (s.1, s.2.1 + 1, true)
  else if s.2.1 = 0 then (s.1 + 1, s.2.1, true)
  else (s.1 + 1, s.2.1 - 1, false)
def zst : Nat → Int × Int × Bool
  | 0 => (0, 0, true)
  | k + 1 => zstep (zst k)
/-- The order: the index at each place. -/
def zn (k : Nat) : Nat := (8 * (zst k).1 + (zst k).2.1).toNat
def zord : List Nat := (List.range 64).map zn
def zi : List Int := zord.map fun (n : Nat) => (n : Int)
theorem zst_ok : ∀ k, k < 64 → 0 ≤ (zst k).1 ∧ (zst k).1 ≤ 7 ∧ 0 ≤ (zst k).2.1 ∧ (zst k).2.1 ≤ 7 := by decide +kernel
/-- After k rounds. -/
def zl (k : Nat) : List Int := zi.take k ++ List.replicate (64 - k) 0
theorem zl_zero : zl 0 = List.replicate 64 0 := rfl
theorem zl_len : ∀ k, k < 65 → (zl k).length = 64 := by decide +kernel
theorem zl_set : ∀ k, k < 64 → (zl k).set k (8 * (zst k).1 + (zst k).2.1) = zl (k + 1) := by decide +kernel
theorem zl_all : zl 64 = zi := by decide +kernel
theorem zi_len : zi.length = 64 := by decide +kernel

set_option maxRecDepth 100000 in
set_option maxHeartbeats 2000000 in
theorem zorder_any (w : World) : Calls Try.prog 41 #[] w fun e w' => e = .returned (.agg (iv zi)) ∧ Ext w w' := by
  go_enter Try.func41, Try.ntmps41
  go_wp2_with fail
  go_loopg [1, 2, 3, 5] 64 (fun gk rv cv uv xv wr => ∃ (i : Nat) (r c : Int) (u : Bool), gk + i = 64 ∧ xv = .int .i64 i ∧ rv = .int .i64 r ∧ cv = .int .i64 c ∧ uv = .bool u ∧ Hid (zst i = (r, c, u)) ∧ Row wr w.heap.size (zl i) ∧ Ext w wr)
  case atStart => exact ⟨0, 0, 0, true, rfl, rfl, rfl, rfl, rfl, rfl, Row.new w (List.replicate 64 0) 37, (Ext.refl w).alloc _⟩
  case round =>
    obtain ⟨i, r, c, u, hi, rfl, rfl, rfl, rfl, hst, hrow, hE⟩ := hrel
    by_cases hlt : i < 64
    · have hb := zst_ok i hlt
      rw [hst.out] at hb
      dsimp only at hb
      obtain ⟨hb1, hb2, hb3, hb4⟩ := hb
      have hcell := hrow.cell i (by rw [zl_len i (by omega)]; exact hlt)
      have hfree := hrow.free i
      have hset := zl_set i hlt
      rw [hst.out] at hset
      have hrow2 := hrow.set i (8 * r + c)
      rw [hset] at hrow2
      have hE2 : Ext w (wr.setCell ⟨w.heap.size, i, none⟩ (.int .i64 (8 * r + c))) := hE.setCell (Nat.le_refl _) _
      have hs : Hid (zst (i + 1) = zstep (r, c, u)) := by unfold Hid; rw [← hst.out]; rfl
      clear hset hst
      have fin : ∀ (r' c' : Int) (u' : Bool), zstep (r, c, u) = (r', c', u') → Hid (zst (i + 1) = (r', c', u')) := fun r' c' u' h => by rw [← h]; exact hs
      clear hs
      have FIN := hid fin
      clear fin
      have hi' : gk - 1 + (i + 1) = 64 := by omega
      have HI := hid hi'
      clear hi'
      have HR := hid hrow2
      have HE := hid hE2
      clear hrow2 hE2
      cases u
      · by_cases h7 : r = 7
        · subst h7
          go_wp2_with fail
          go_roundg (gk - 1)
          case measure => omega
          case rel => exact ⟨i + 1, _, _, _, HI.out, by go_num, rfl, rfl, rfl, FIN.out _ _ _ (by simp [zstep]), HR.out, HE.out⟩
        · by_cases h0 : c = 0
          · subst h0
            go_wp2_with fail
            go_roundg (gk - 1)
            case measure => omega
            case rel => exact ⟨i + 1, _, _, _, HI.out, by go_num, rfl, rfl, rfl, FIN.out _ _ _ (by simp [zstep]; omega), by simpa using HR.out, by simpa using HE.out⟩
          · go_wp2_with fail
            go_roundg (gk - 1)
            case measure => omega
            case rel => exact ⟨i + 1, _, _, _, HI.out, by go_num, rfl, rfl, rfl, FIN.out _ _ _ (by simp [zstep, h7, h0]), HR.out, HE.out⟩
      · by_cases h7 : c = 7
        · subst h7
          go_wp2_with fail
          go_roundg (gk - 1)
          case measure => omega
          case rel => exact ⟨i + 1, _, _, _, HI.out, by go_num, rfl, rfl, rfl, FIN.out _ _ _ (by simp [zstep]), HR.out, HE.out⟩
        · by_cases h0 : r = 0
          · subst h0
            go_wp2_with fail
            go_roundg (gk - 1)
            case measure => omega
            case rel => exact ⟨i + 1, _, _, _, HI.out, by go_num, rfl, rfl, rfl, FIN.out _ _ _ (by simp [zstep]; omega), by simpa using HR.out, by simpa using HE.out⟩
          · go_wp2_with fail
            go_roundg (gk - 1)
            case measure => omega
            case rel => exact ⟨i + 1, _, _, _, HI.out, by go_num, rfl, rfl, rfl, FIN.out _ _ _ (by simp [zstep, h7, h0]), HR.out, HE.out⟩
    · obtain rfl : i = 64 := by omega
      rw [zl_all] at hrow
      obtain ⟨t, hrow⟩ := hrow
      have hself := setRow_self wr w.heap.size _ t _ hrow
      have hsz : (Try.prog.info? 37).map (·.size) = some (iv zi).size := by rw [iv_size, zi_len]; kernel_rfl
      have HS := hid hsz
      have HSelf := hid hself
      clear hsz hself
      have hh := hid hrow
      clear hrow
      go_wp2_with (first
        | (refine wpList_load_row rfl 37 _ rfl w.heap.size rfl t (iv zi) (0, 0) _ hh.out Try.underlying37 rfl HS.out ?_)
        | (refine wpList_store_row rfl 37 _ _ rfl w.heap.size (iv zi) rfl rfl t (iv zi) hh.out HS.out rfl (iv_one _) ?_; rw [HSelf.out]))
      refine bodyPost_ret (results_cell_row rfl _ wr w.heap.size t (iv zi) (0, 0) _ rfl hh.out Try.underlying37 rfl HS.out) rfl ?_
      exact ⟨rfl, hE⟩

theorem zi_get (i : Nat) (h : i < 64) : (iv zi)[i]? = some (.int .i64 (zn i : Int)) := by
  rw [iv_get zi i (by rw [zi_len]; exact h)]
  congr 2
  simp [nth, zi, zord, List.getD, List.getElem?_map, List.getElem?_range h]
theorem zn_lt : ∀ i, i < 64 → zn i < 64 := by decide +kernel
theorem zn_lt' (i : Nat) (h : i < 64) : (zn i : Int) < 64 := by have := zn_lt i h; omega
/-- A block in zigzag order, and back. -/
def zto (l : List Int) : List Int := zord.map fun n => nth l n
theorem zord_len : zord.length = 64 := by decide +kernel
theorem zto_len (l : List Int) : (zto l).length = 64 := by rw [zto, List.length_map, zord_len]
theorem zto_get (l : List Int) (i : Nat) (h : i < 64) : nth (zto l) i = nth l (zn i) := by
  simp [nth, zto, zord, List.getD, List.getElem?_map, List.getElem?_range h]

set_option maxRecDepth 100000 in
set_option maxHeartbeats 2000000 in
theorem zto_any (w : World) (l : List Int) (hl : l.length = 64) : Calls Try.prog 35 #[.agg (iv l)] w fun e w' => e = .returned (.agg (iv (zto l))) ∧ Ext w w' := by
  go_enter Try.func35, Try.ntmps35
  go_wp2_with fail
  refine (zorder_any _).mono ?_
  rintro e w1 ⟨rfl, hE1⟩
  have hb : Row w1 w.heap.size l := ((Row.new w l 38).alloc _).ext hE1
  have ho : Row w1 (w.heap.size + 1) (filling (zto l) 0) := by
    rw [filling_zero, zto_len]
    have h := (Row.new (w.alloc (.cells (iv l) 38)) (List.replicate 64 0) 38).ext hE1
    simpa using h
  have hE : Ext w w1 := (((Ext.refl w).alloc _).alloc _).trans hE1
  clear hE1
  go_wp2_with fail
  go_loopg [6] 64 (fun gk xv wr => ∃ (i : Nat), gk + i = 64 ∧ xv = .int .i64 i ∧ Row wr w.heap.size l ∧ Row wr (w.heap.size + 1) (filling (zto l) i) ∧ Ext w wr)
  case atStart => exact ⟨0, rfl, rfl, hb, ho, hE⟩
  case round =>
    clear hb ho hE
    obtain ⟨i, hi, rfl, hb, ho, hE⟩ := hrel
    by_cases hlt : i < 64
    · have hz := zi_get i hlt
      have hzl := zn_lt' i hlt
      have hzl' := zn_lt i hlt
      have hcell := hb.cell (zn i) (by omega)
      have hcell2 := ho.cell i (by rw [filling_len _ _ (by rw [zto_len]; omega), zto_len]; exact hlt)
      have hfree := ho.free i
      have ho2 := ho.set i (nth (zto l) i)
      rw [filling_set _ _ (by rw [zto_len]; exact hlt), zto_get _ _ hlt] at ho2
      have HB := hid (hb.setOther ⟨w.heap.size + 1, i, none⟩ (.int .i64 (nth l (zn i))) (by simp))
      have HO := hid ho2
      have HE := hid (hE.setCell (a := ⟨w.heap.size + 1, i, none⟩) (by simp) (.int .i64 (nth l (zn i))))
      have hi' : gk - 1 + (i + 1) = 64 := by omega
      have HI := hid hi'
      clear hi' ho2
      go_wp2_with fail
      go_roundg (gk - 1)
      case measure => omega
      case rel => exact ⟨i + 1, HI.out, by go_num, HB.out, HO.out, HE.out⟩
    · obtain rfl : i = 64 := by omega
      have ho' : Row wr (w.heap.size + 1) (zto l) := by have h := filling_all (zto l); rw [zto_len] at h; rw [h] at ho; exact ho
      clear ho
      obtain ⟨t, ho⟩ := ho'
      have HSelf := hid (setRow_self wr (w.heap.size + 1) _ t _ ho)
      have HS := hid (show (Try.prog.info? 38).map (·.size) = some (iv (zto l)).size by rw [iv_size, zto_len]; kernel_rfl)
      have hh := hid ho
      clear ho
      go_wp2_with (first
        | (refine wpList_load_row rfl 38 _ rfl (w.heap.size + 1) rfl t (iv (zto l)) (0, 0) _ hh.out Try.underlying38 rfl HS.out ?_)
        | (refine wpList_store_row rfl 38 _ _ rfl (w.heap.size + 1) (iv (zto l)) rfl rfl t (iv (zto l)) hh.out HS.out rfl (iv_one _) ?_; rw [HSelf.out]))
      refine bodyPost_ret (results_cell_row rfl _ wr (w.heap.size + 1) t (iv (zto l)) (0, 0) _ rfl hh.out Try.underlying38 rfl HS.out) rfl ?_
      exact ⟨rfl, hE⟩

def zfl (l : List Int) (k : Nat) : List Int := (List.range k).foldl (fun acc i => acc.set (zn i) (nth l i)) (List.replicate 64 0)
def zfrom (l : List Int) : List Int := zfl l 64
theorem zfl_succ (l : List Int) (k : Nat) : zfl l (k + 1) = (zfl l k).set (zn k) (nth l k) := by
  simp [zfl, List.range_succ, List.foldl_append]
theorem zfl_len (l : List Int) (k : Nat) : (zfl l k).length = 64 := by
  induction k with
  | zero => rfl
  | succ k ih => rw [zfl_succ, List.length_set, ih]
theorem zfrom_len (l : List Int) : (zfrom l).length = 64 := zfl_len l 64
theorem zn_inj : ∀ i, i < 64 → ∀ j, j < 64 → zn i = zn j → i = j := by decide +kernel
theorem zn_onto : ∀ j, j < 64 → zord.idxOf j < 64 ∧ zn (zord.idxOf j) = j := by decide +kernel
theorem zfl_get (l : List Int) (k : Nat) (hk : k ≤ 64) (i : Nat) (hi : i < k) : nth (zfl l k) (zn i) = nth l i := by
  induction k with
  | zero => omega
  | succ k ih =>
    rw [zfl_succ]
    by_cases h : i = k
    · subst h
      have hlt : zn i < (zfl l i).length := by rw [zfl_len]; exact zn_lt i (by omega)
      simp [nth, List.getD, hlt]
    · have hne : ¬ zn k = zn i := fun e => h (zn_inj k (by omega) i (by omega) e).symm
      have := ih (by omega) (by omega)
      simp only [nth, List.getD, List.getElem?_set, if_neg hne] at this ⊢
      exact this
theorem list_ext64 (l m : List Int) (hl : l.length = 64) (hm : m.length = 64) (h : ∀ i, i < 64 → nth l i = nth m i) : l = m := by
  apply List.ext_getElem (by omega)
  intro i h1 h2
  have := h i (by omega)
  simpa [nth, List.getD, List.getElem?_eq_getElem h1, List.getElem?_eq_getElem h2] using this
theorem zto_zfrom (l : List Int) (hl : l.length = 64) : zto (zfrom l) = l :=
  list_ext64 _ _ (zto_len _) hl fun i hi => by rw [zto_get _ i hi]; exact zfl_get l 64 (by omega) i hi
theorem zfrom_zto (l : List Int) (hl : l.length = 64) : zfrom (zto l) = l :=
  list_ext64 _ _ (zfrom_len _) hl fun j hj => by
    obtain ⟨h1, h2⟩ := zn_onto j hj
    have h3 := zfl_get (zto l) 64 (by omega) _ h1
    rw [zto_get _ _ h1, h2] at h3
    exact h3

set_option maxRecDepth 100000 in
set_option maxHeartbeats 2000000 in
theorem zfrom_any (w : World) (l : List Int) (hl : l.length = 64) : Calls Try.prog 39 #[.agg (iv l)] w fun e w' => e = .returned (.agg (iv (zfrom l))) ∧ Ext w w' := by
  go_enter Try.func39, Try.ntmps39
  go_wp2_with fail
  refine (zorder_any _).mono ?_
  rintro e w1 ⟨rfl, hE1⟩
  have hb : Row w1 w.heap.size l := ((Row.new w l 38).alloc _).ext hE1
  have ho : Row w1 (w.heap.size + 1) (zfl l 0) := by
    have h := (Row.new (w.alloc (.cells (iv l) 38)) (List.replicate 64 0) 38).ext hE1
    have e : (w.alloc (.cells (iv l) 38)).heap.size = w.heap.size + 1 := by simp
    rw [e] at h
    exact h
  have hE : Ext w w1 := (((Ext.refl w).alloc _).alloc _).trans hE1
  clear hE1
  go_wp2_with fail
  go_loopg [6] 64 (fun gk xv wr => ∃ (i : Nat), gk + i = 64 ∧ xv = .int .i64 i ∧ Row wr w.heap.size l ∧ Row wr (w.heap.size + 1) (zfl l i) ∧ Ext w wr)
  case atStart => exact ⟨0, rfl, rfl, hb, ho, hE⟩
  case round =>
    clear hb ho hE
    obtain ⟨i, hi, rfl, hb, ho, hE⟩ := hrel
    by_cases hlt : i < 64
    · have hz := zi_get i hlt
      have hzl := zn_lt' i hlt
      have hzl' := zn_lt i hlt
      have hcell := hb.cell i (by omega)
      have hcell2 := ho.cell (zn i) (by rw [zfl_len]; exact hzl')
      have hfree := ho.free (zn i)
      have ho2 := ho.set (zn i) (nth l i)
      rw [← zfl_succ] at ho2
      have HB := hid (hb.setOther ⟨w.heap.size + 1, zn i, none⟩ (.int .i64 (nth l i)) (by simp))
      have HO := hid ho2
      have HE := hid (hE.setCell (a := ⟨w.heap.size + 1, zn i, none⟩) (by simp) (.int .i64 (nth l i)))
      have hi' : gk - 1 + (i + 1) = 64 := by omega
      have HI := hid hi'
      clear hi' ho2
      go_wp2_with fail
      go_roundg (gk - 1)
      case measure => omega
      case rel => exact ⟨i + 1, HI.out, by go_num, HB.out, HO.out, HE.out⟩
    · obtain rfl : i = 64 := by omega
      obtain ⟨t, ho⟩ := ho
      have ho' : wr.heap[w.heap.size + 1]? = some (.cells (iv (zfrom l)) t (0, 0)) := ho
      have HSelf := hid (setRow_self wr (w.heap.size + 1) _ t _ ho')
      have HS := hid (show (Try.prog.info? 38).map (·.size) = some (iv (zfrom l)).size by rw [iv_size, zfrom_len]; kernel_rfl)
      have hh := hid ho'
      clear ho ho'
      go_wp2_with (first
        | (refine wpList_load_row rfl 38 _ rfl (w.heap.size + 1) rfl t (iv (zfrom l)) (0, 0) _ hh.out Try.underlying38 rfl HS.out ?_)
        | (refine wpList_store_row rfl 38 _ _ rfl (w.heap.size + 1) (iv (zfrom l)) rfl rfl t (iv (zfrom l)) hh.out HS.out rfl (iv_one _) ?_; rw [HSelf.out]))
      refine bodyPost_ret (results_cell_row rfl _ wr (w.heap.size + 1) t (iv (zfrom l)) (0, 0) _ rfl hh.out Try.underlying38 rfl HS.out) rfl ?_
      exact ⟨rfl, hE⟩

end Go.Proofs.Ytccgcefeenloiaa
