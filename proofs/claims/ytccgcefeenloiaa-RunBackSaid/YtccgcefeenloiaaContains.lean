/- The walks of slices.ContainsFunc and IndexFunc at ints. -/
import Derived.Test.YtccgcefeenloiaaTint
import Derived.Test.YtccgcefeenloiaaFree
namespace Go.Proofs.Ytccgcefeenloiaa
open Go.RowKit
def firstIdx (p : Int → Bool) (xs : List Int) : Int := match xs.findIdx? p with | some i => (i : Int) | none => -1
theorem firstIdx_some (p : Int → Bool) (xs : List Int) (i : Nat) (h : i < xs.length) (hp : p (nth xs i) = true) (hpre : ∀ j, j < i → p (nth xs j) = false) : firstIdx p xs = i := by
  have : xs.findIdx? p = some i := by
    rw [List.findIdx?_eq_some_iff_getElem]
    refine ⟨h, by simpa [nth, List.getD, List.getElem?_eq_getElem h] using hp, fun j hj => ?_⟩
    have := hpre j hj
    simpa [nth, List.getD, List.getElem?_eq_getElem (show j < xs.length by omega)] using this
  simp [firstIdx, this]
theorem firstIdx_none (p : Int → Bool) (xs : List Int) (hpre : ∀ j, j < xs.length → p (nth xs j) = false) : firstIdx p xs = -1 := by
  have : xs.findIdx? p = none := by
    rw [List.findIdx?_eq_none_iff]
    intro x hx
    obtain ⟨j, hj, rfl⟩ := List.getElem_of_mem hx
    have := hpre j hj
    simpa [nth, List.getD, List.getElem?_eq_getElem hj] using this
  simp [firstIdx, this]
theorem firstIdx_any (p : Int → Bool) (xs : List Int) : decide (0 ≤ firstIdx p xs) = xs.any p := by
  unfold firstIdx
  rw [Bool.eq_iff_iff, decide_eq_true_eq, List.any_eq_true]
  cases h : xs.findIdx? p with
  | none =>
    rw [List.findIdx?_eq_none_iff] at h
    simp only [Int.reduceNeg]
    constructor
    · intro h'; omega
    · rintro ⟨x, hx, hp⟩; rw [h x hx] at hp; cases hp
  | some i =>
    rw [List.findIdx?_eq_some_iff_getElem] at h
    obtain ⟨hi, hp, _⟩ := h
    exact ⟨fun _ => ⟨_, List.getElem_mem hi, hp⟩, fun _ => by dsimp only; omega⟩
theorem firstIdx_bd (p : Int → Bool) (xs : List Int) : -1 ≤ firstIdx p xs := by
  unfold firstIdx; split <;> omega
set_option maxHeartbeats 1000000 in
theorem indexFunc_any (w : World) (v : Value) (xs : List Int) (hs : ISl w v xs) (K : Nat) (caps : Array Value) (p : Int → Bool) (hk : ∀ (args : Array Value) (w : World), (callFunc K args).run Try.prog w = .ok (.enter K args) w)
    (hf : ∀ n, Calls Try.prog K (#[.int .i64 n] ++ caps) w fun e w' => e = .returned (.bool (p n)) ∧ w = w') :
    Calls Try.prog 34 #[v, .func (.func K) #[] caps] w fun e w' => e = .returned (.int .i64 (firstIdx p xs)) ∧ w = w' := by
  obtain ⟨a, c, rfl, hc1, hc2, ha⟩ := hs.open
  have HF := hid hf
  clear hf
  go_enter Try.func34, Try.ntmps34
  go_wp2_with fail
  go_loopg [8] xs.length (fun gk xv wr => ∃ (i : Nat), gk + i = xs.length ∧ xv = .int .i64 i ∧ (∀ j, j < i → p (nth xs j) = false) ∧ wr = w)
  case atStart => exact ⟨0, rfl, rfl, fun j hj => by omega, rfl⟩
  case round =>
    obtain ⟨i, hi, rfl, hpre, rfl⟩ := hrel
    have hi' : i ≤ xs.length := by omega
    have HP := hid hpre
    clear hpre
    by_cases hlt : i < xs.length
    · obtain ⟨ba, oa, rfl, hca⟩ := ha i hlt
      have h1 := hca i hlt
      clear ha hca
      have HM : Hid (gk - 1 + (i + 1) = xs.length) := by unfold Hid; omega
      have HG : Hid (gk - 1 < gk) := by unfold Hid; omega
      clear hi
      go_wp2_with fail
      refine (HF.out (nth xs i)).mono ?_
      rintro e w' ⟨rfl, rfl⟩
      by_cases hp : p (nth xs i) = true
      · have HX := hid (firstIdx_some p xs i hlt hp HP.out)
        rw [hp]
        clear hp
        go_wp2_with fail
        go_ret
        exact ⟨ret_int HX.out.symm, rfl⟩
      · have hp' : p (nth xs i) = false := by simpa using hp
        have HX : Hid (∀ j, j < i + 1 → p (nth xs j) = false) := fun j hj => by
          by_cases hji : j = i
          · subst hji; exact hp'
          · exact HP.out j (by omega)
        rw [hp']
        clear hp hp'
        go_wp2_with fail
        go_roundg (gk - 1)
        case measure => exact HG.out
        case rel => exact ⟨i + 1, HM.out, by go_num, HX.out, rfl⟩
    · have HX := hid (firstIdx_none p xs (fun j hj => HP.out j (by omega)))
      clear ha
      go_wp2_with fail
      go_ret
      exact ⟨ret_int HX.out.symm, rfl⟩
theorem containsFunc_any (w : World) (v : Value) (xs : List Int) (hs : ISl w v xs) (K : Nat) (caps : Array Value) (p : Int → Bool) (hk : ∀ (args : Array Value) (w : World), (callFunc K args).run Try.prog w = .ok (.enter K args) w)
    (hf : ∀ n, Calls Try.prog K (#[.int .i64 n] ++ caps) w fun e w' => e = .returned (.bool (p n)) ∧ w = w') :
    Calls Try.prog 27 #[v, .func (.func K) #[] caps] w fun e w' => e = .returned (.bool (xs.any p)) ∧ w = w' := by
  have HA := hid (firstIdx_any p xs)
  have hb := firstIdx_bd p xs
  have HF := hid (indexFunc_any w v xs hs K caps p hk hf)
  clear hf hs
  go_enter Try.func27, Try.ntmps27
  go_wp2_with (go_at_call 34; refine HF.out.mono ?_; rintro e w' ⟨rfl, rfl⟩)
  go_ret
  exact ⟨ret_bool HA.out, rfl⟩
/-- Are all numbers within bounds? -/
def allIn (l : List Int) (lo hi : Int) : Bool := !l.any fun n => decide (n < lo) || decide (hi < n)
theorem allIn_iff (l : List Int) (lo hi : Int) : allIn l lo hi = true ↔ ∀ i, i < l.length → lo ≤ nth l i ∧ nth l i ≤ hi := by
  unfold allIn
  rw [Bool.not_eq_true', List.any_eq_false]
  constructor
  · intro h i hi
    have := h l[i] (List.getElem_mem hi)
    simp only [Bool.or_eq_true, decide_eq_true_eq, not_or] at this
    simp only [nth, List.getD, List.getElem?_eq_getElem hi, Option.getD_some]
    omega
  · intro h x hx
    obtain ⟨j, hj, rfl⟩ := List.getElem_of_mem hx
    have := h j hj
    simp only [nth, List.getD, List.getElem?_eq_getElem hj, Option.getD_some] at this
    simp only [Bool.or_eq_true, decide_eq_true_eq, not_or]
    omega
end Go.Proofs.Ytccgcefeenloiaa
