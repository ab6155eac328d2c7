/- Files that came in. -/
import Derived.Test.YthkdckmhmiebfaaOpenTab
namespace Go.Proofs.Ythkdckmhmiebfaa
open Go.ChangeShapes Go.WideShapes Go.ChangeAt Go.RowKit Go.Deep
set_option linter.unusedVariables false
/-- A file, as its parts. -/
structure FileV where
  wide : Int
  high : Int
  parts : Int
  quant : List Int
  c1 : List Int
  s1 : List Int
  c2 : List Int
  s2 : List Int
  every : Int
  data : List Nat
def fparts (f : FileV) (v1 v2 vd : Value) : List Part := [.val (.int .i64 f.wide), .val (.int .i64 f.high), .val (.int .i64 f.parts), .ints f.quant, .ints f.c1, .val v1, .ints f.c2, .val v2, .val (.int .i64 f.every), .val vd]
structure FileIn (W : World) (f : FileV) (a1 a2 ad : Option Addr) (n1 k1 n2 k2 nd kd : Nat) : Prop where
  wide : -9223372036854775808 ≤ f.wide ∧ f.wide ≤ 9223372036854775807
  high : -9223372036854775808 ≤ f.high ∧ f.high ≤ 9223372036854775807
  parts : -9223372036854775808 ≤ f.parts ∧ f.parts ≤ 9223372036854775807
  every : -9223372036854775808 ≤ f.every ∧ f.every ≤ 9223372036854775807
  quant : Len f.quant 64
  t1 : TabIn W f.c1 f.s1 a1 n1 k1
  t2 : TabIn W f.c2 f.s2 a2 n2 k2
  dlt : ∀ x ∈ f.data, x < 256
  dsl : Sl W 1 (.slice ad nd kd) nd (f.data.map fun (x : Nat) => Value.int .u8 (x : Int))
  dcap : nd ≤ kd ∧ kd ≤ 9223372036854775807
theorem one_int {H : Type} {enc : TypeId × Value → H} {W : World} {fuel : Nat} {cs : List Value} {x : DataW H × List MemPlace} (h : DataW.trod enc Try.prog W 0 (fun _ => true) true fuel 3 cs = some x) : ∃ n : Int, cs = [.int .i64 n] ∧ -9223372036854775808 ≤ n ∧ n ≤ 9223372036854775807 := by
  obtain ⟨n, rfl, _, hw⟩ := DataW.trod_int Try.underlying3 h
  exact ⟨n, rfl, (wf_i64_iff n).1 hw⟩
theorem chunk (l : List Value) (i n k : Nat) (h : i + n = k) : l.drop i = (l.drop i).take n ++ l.drop k := by
  subst h
  rw [← List.drop_drop, List.take_append_drop]
theorem file_cells {H : Type} {enc : TypeId × Value → H} {W : World} {fuel : Nat} {cs : List Value} {x : DataW H × List MemPlace} (h : DataW.trod enc Try.prog W 0 (fun _ => true) true fuel 50 cs = some x) :
    ∃ (f : FileV) (a1 a2 ad : Option Addr) (n1 k1 n2 k2 nd kd : Nat), cs = pcells (fparts f (.slice a1 n1 k1) (.slice a2 n2 k2) (.slice ad nd kd)) ∧ FileIn W f a1 a2 ad n1 k1 n2 k2 nd kd := by
  obtain ⟨xs, m, _, _, hl, hxl, hf⟩ := DataW.trod_struct Try.underlying50 h
  have hl103 : cs.length = 103 := by rw [hl]; kernel_rfl
  have hx7 : xs.length = 7 := hxl
  have f0 := hf 0 { name := "Wide", type := 3, offset := 0, embedded := false, tag := "", pkgPath := "", byteOffset := 0 } rfl
  have f1 := hf 1 { name := "High", type := 3, offset := 1, embedded := false, tag := "", pkgPath := "", byteOffset := 8 } rfl
  have f2 := hf 2 { name := "Parts", type := 3, offset := 2, embedded := false, tag := "", pkgPath := "", byteOffset := 16 } rfl
  have f3 := hf 3 { name := "Quant", type := 23, offset := 3, embedded := false, tag := "", pkgPath := "", byteOffset := 24 } rfl
  have f4 := hf 4 { name := "Tables", type := 47, offset := 67, embedded := false, tag := "", pkgPath := "", byteOffset := 536 } rfl
  have f5 := hf 5 { name := "Every", type := 3, offset := 101, embedded := false, tag := "", pkgPath := "", byteOffset := 840 } rfl
  have f6 := hf 6 { name := "Data", type := 48, offset := 102, embedded := false, tag := "", pkgPath := "", byteOffset := 848 } rfl
  dsimp only at f0 f1 f2 f3 f4 f5 f6
  rw [List.getElem?_eq_getElem (by omega)] at f0 f1 f2 f3 f4 f5 f6
  have c1 : Try.prog.cellsOf 3 = 1 := by kernel_rfl
  have c64 : Try.prog.cellsOf 23 = 64 := by kernel_rfl
  have c34 : Try.prog.cellsOf 47 = 34 := by kernel_rfl
  have cb : Try.prog.cellsOf 48 = 1 := by kernel_rfl
  have c17 : Try.prog.cellsOf 45 = 17 := by kernel_rfl
  rw [c1] at f0 f1 f2 f5
  rw [c64] at f3
  rw [c34] at f4
  rw [cb] at f6
  obtain ⟨w, e0, r0⟩ := one_int f0
  obtain ⟨hh, e1, r1⟩ := one_int f1
  obtain ⟨p, e2, r2⟩ := one_int f2
  obtain ⟨q, hq, e3, _⟩ := ints_of (dp := 3) (by kernel_rfl) f3
  rw [c64] at hq
  obtain ⟨ev, e5, r5⟩ := one_int f5
  obtain ⟨ys, m2, _, _, hl2, hy2, hg⟩ := DataW.trod_struct Try.underlying47 f4
  have hy2' : ys.length = 2 := hy2
  have g0 := hg 0 { name := "First", type := 45, offset := 0, embedded := false, tag := "", pkgPath := "", byteOffset := 0 } rfl
  have g1 := hg 1 { name := "Rest", type := 45, offset := 17, embedded := false, tag := "", pkgPath := "", byteOffset := 152 } rfl
  dsimp only at g0 g1
  rw [List.getElem?_eq_getElem (by omega), c17] at g0 g1
  obtain ⟨C1, S1, a1, n1, k1, t1, T1⟩ := tab_cells g0
  obtain ⟨C2, S2, a2, n2, k2, t2, T2⟩ := tab_cells g1
  obtain ⟨vd, hvd⟩ : ∃ v, (cs.drop 102).take 1 = [v] := by
    match hd : (cs.drop 102).take 1, (show ((cs.drop 102).take 1).length = 1 by simp [hl103]) with
    | [v], _ => exact ⟨v, rfl⟩
  rw [hvd] at f6
  obtain ⟨nd, ns, hns, hsl, hsr⟩ := op_slice_t .u8 Try.underlying48 1 (by kernel_rfl) 1 (by kernel_rfl) (by omega) f6
  obtain ⟨ad, kd, rfl, hnc, hcm⟩ : ∃ ad c, vd = .slice ad nd c ∧ nd ≤ c ∧ c ≤ 9223372036854775807 := by
    obtain ⟨_, ad, c, h1, h2, h3, _⟩ := hsl
    exact ⟨ad, c, h1, h2, by unfold maxLen at h3; exact h3⟩
  have hb : ∀ x ∈ ns, 0 ≤ x ∧ x ≤ 255 := fun x hx => by
    obtain ⟨i, hi, rfl⟩ := List.getElem_of_mem hx
    have := (wf_u8_iff _).1 (hsr i hi)
    simpa [nth, List.getD, hi] using this
  have e : ns.map (Value.int .u8) = (ns.map Int.toNat).map fun (x : Nat) => Value.int .u8 (x : Int) := by
    rw [List.map_map]
    refine List.map_congr_left fun x hx => ?_
    have := hb x hx
    simp only [Function.comp]
    rw [Int.toNat_of_nonneg (by omega)]
  refine ⟨⟨w, hh, p, q, C1, S1, C2, S2, ev, ns.map Int.toNat⟩, a1, a2, ad, n1, k1, n2, k2, nd, kd, ?_, ⟨r0, r1, r2, r5, hq, T1, T2, fun x hx => ?_, e ▸ hsl, hnc, hcm⟩⟩
  · have q0 : cs = cs.drop 0 := rfl
    have d103 : cs.drop 103 = [] := by rw [List.drop_eq_nil_iff]; omega
    have tl : ((cs.drop 67).take 34).length = 34 := by simp [hl103]
    have u0 : (cs.drop 67).take 34 = ((cs.drop 67).take 34).drop 0 := rfl
    have d34 : ((cs.drop 67).take 34).drop 34 = [] := by rw [List.drop_eq_nil_iff]; omega
    rw [q0, chunk cs 0 1 1 rfl, e0, chunk cs 1 1 2 rfl, e1, chunk cs 2 1 3 rfl, e2, chunk cs 3 64 67 rfl, e3, chunk cs 67 34 101 rfl, chunk cs 101 1 102 rfl, e5, chunk cs 102 1 103 rfl, hvd, d103]
    rw [u0, chunk _ 0 17 17 rfl, t1, chunk _ 17 17 34 rfl, t2, d34]
    simp [pcells, fparts, Part.cells]
  · obtain ⟨y, hy, rfl⟩ := List.mem_map.1 hx
    have := hb y hy
    omega
end Go.Proofs.Ythkdckmhmiebfaa
