/- The operations that only compute, each by a law of its own: no simp, nothing of the context is used but by omega. -/
import Derived.Test.YthmkhpijdpbfbaaDoorDraw
import Derived.Test.YthmkhpijdpbfbaaDoorTy
namespace Go.Proofs.YthmkhpijdpbfbaaDoor
open Go.RowKit
set_option linter.unusedVariables false
/-- The operation op, at the frame a, gives v, and leaves the world alone. -/
def Val (P : Program) (op : Op) (ty : TypeId) (a : Act) (v : Value) : Prop :=
  ∀ (d : Option Tmp) (pos : String) (af : Array Edge) (g : Option (Nat × Bool)) (w : World), (execOp a.eval ⟨d, op, ty, pos, af, g⟩).run P w = .ok (.value v) w
section
variable {P : Program} {ops : Array Oper} {Q : Exit → Act → World → Prop} {rest : List Oper} {a : Act} {w : World} {d : Option Tmp} {op : Op} {ty : TypeId} {pos : String} {af : Array Edge} {g : Option (Nat × Bool)}
theorem wp_const (v : Value) (K : Act → World → Prop) (h : K (a.put d v) w) : (Oper.mk d (.move (.const v)) ty pos af g).wp P a w K Q := h
theorem wplV (v : Value) (hv : Val P op ty a v) (hw : Region.wanted ⟨d, op, ty, pos, af, g⟩ (yielded ops a.tmps) = true) (h : (Oper.mk d (.move (.const v)) ty pos af g).wp P a w (wpList P ops Q rest) Q) : wpList P ops Q (⟨d, op, ty, pos, af, g⟩ :: rest) a w := by
  refine wpl hw ?_
  unfold Oper.wp
  rw [hv d pos af g w]
  exact h
/-- A Bool that decides of what follows: both ways. -/
theorem wplB (b : Bool) (hv : Val P op ty a (.bool b)) (hw : Region.wanted ⟨d, op, ty, pos, af, g⟩ (yielded ops a.tmps) = true) (ht : b = true → (Oper.mk d (.move (.const (.bool true))) ty pos af g).wp P a w (wpList P ops Q rest) Q)
    (hf : b = false → (Oper.mk d (.move (.const (.bool false))) ty pos af g).wp P a w (wpList P ops Q rest) Q) : wpList P ops Q (⟨d, op, ty, pos, af, g⟩ :: rest) a w := by
  cases b
  · exact wplV _ hv hw (hf rfl)
  · exact wplV _ hv hw (ht rfl)
theorem wplD (p : Prop) [Decidable p] (hv : Val P op ty a (.bool (decide p))) (hw : Region.wanted ⟨d, op, ty, pos, af, g⟩ (yielded ops a.tmps) = true) (ht : p → (Oper.mk d (.move (.const (.bool true))) ty pos af g).wp P a w (wpList P ops Q rest) Q)
    (hf : ¬ p → (Oper.mk d (.move (.const (.bool false))) ty pos af g).wp P a w (wpList P ops Q rest) Q) : wpList P ops Q (⟨d, op, ty, pos, af, g⟩ :: rest) a w :=
  wplB _ hv hw (fun h => ht (of_decide_eq_true h)) (fun h => hf (of_decide_eq_false h))
theorem wplSkip (hw : Region.wanted ⟨d, op, ty, pos, af, g⟩ (yielded ops a.tmps) = false) (h : (Oper.mk d (.move (.const undef)) ty pos af g).wp P a w (wpList P ops Q rest) Q) : wpList P ops Q (⟨d, op, ty, pos, af, g⟩ :: rest) a w := wpList_skip hw h
theorem put_move {d : Tmp} {v : Value} (h : (Oper.mk (some d) (.move (.const v)) 0 "" #[] none).wp P a w (wpList P ops Q rest) Q) : wpList P ops Q rest (a.put (some d) v) w := h
theorem drawn_move {md : Region.Mode} {D : List Nat} {S : World → Prop} {fuel : Nat} {listed : Array Bool} {d : Tmp} {v : Value} (h : (Oper.mk (some d) (.move (.const v)) 0 "" #[] none).wp P a w (wpAnyN P md ops Q D S fuel listed) Q) : wpAnyN P md ops Q D S fuel listed (a.put (some d) v) w := h
theorem wplPickT {c x y : Operand} (hc : a.eval c = .bool true) (hw : Region.wanted ⟨d, .pick c x y, ty, pos, af, g⟩ (yielded ops a.tmps) = true) (h : (Oper.mk d (.move x) ty pos af g).wp P a w (wpList P ops Q rest) Q) : wpList P ops Q (⟨d, .pick c x y, ty, pos, af, g⟩ :: rest) a w := by
  refine wpl hw ?_
  unfold Oper.wp execOp at *
  simp only [hc, asBool, Sem.run_bind, Sem.run_pure, Result.andThen_ok, if_true] at *
  exact h
theorem wplPickF {c x y : Operand} (hc : a.eval c = .bool false) (hw : Region.wanted ⟨d, .pick c x y, ty, pos, af, g⟩ (yielded ops a.tmps) = true) (h : (Oper.mk d (.move y) ty pos af g).wp P a w (wpList P ops Q rest) Q) : wpList P ops Q (⟨d, .pick c x y, ty, pos, af, g⟩ :: rest) a w := by
  refine wpl hw ?_
  unfold Oper.wp execOp at *
  simp only [hc, asBool, Sem.run_bind, Sem.run_pure, Result.andThen_ok, Bool.false_eq_true, if_false] at *
  exact h
end
/-- An integer that is a natural number. -/
def IsN (z : Int) (j : Nat) : Prop := z = (j : Int)
theorem IsN.cast {j : Nat} : IsN (j : Int) j := rfl
theorem IsN.l0 : IsN 0 0 := rfl
theorem IsN.l1 : IsN 1 1 := rfl
theorem IsN.l2 : IsN 2 2 := rfl
theorem IsN.l3 : IsN 3 3 := rfl
theorem IsN.l4 : IsN 4 4 := rfl
theorem IsN.l5 : IsN 5 5 := rfl
theorem IsN.l6 : IsN 6 6 := rfl
theorem IsN.l7 : IsN 7 7 := rfl
theorem IsN.l8 : IsN 8 8 := rfl
theorem IsN.l9 : IsN 9 9 := rfl
theorem IsN.l10 : IsN 10 10 := rfl
theorem IsN.l11 : IsN 11 11 := rfl
theorem IsN.l12 : IsN 12 12 := rfl
theorem IsN.l13 : IsN 13 13 := rfl
theorem IsN.l14 : IsN 14 14 := rfl
theorem IsN.l15 : IsN 15 15 := rfl
theorem IsN.l16 : IsN 16 16 := rfl
theorem IsN.l63 : IsN 63 63 := rfl
theorem IsN.l64 : IsN 64 64 := rfl
theorem IsN.l127 : IsN 127 127 := rfl
theorem IsN.l128 : IsN 128 128 := rfl
theorem IsN.l255 : IsN 255 255 := rfl
theorem IsN.l256 : IsN 256 256 := rfl
theorem IsN.add {x y : Int} {i j : Nat} (h : IsN x i) (k : IsN y j) : IsN (x + y) (i + j) := by unfold IsN at *; omega
theorem IsN.mul {x y : Int} {i j : Nat} (h : IsN x i) (k : IsN y j) : IsN (x * y) (i * j) := by unfold IsN at *; rw [h, k]; push_cast; rfl
theorem IsN.div {x y : Int} {i j : Nat} (h : IsN x i) (k : IsN y j) : IsN (x / y) (i / j) := by unfold IsN at *; rw [h, k]; push_cast; rfl
theorem IsN.mod {x y : Int} {i j : Nat} (h : IsN x i) (k : IsN y j) : IsN (x % y) (i % j) := by unfold IsN at *; rw [h, k]; push_cast; rfl
theorem IsN.min {x y : Int} {i j : Nat} (h : IsN x i) (k : IsN y j) : IsN (Min.min x y) (Min.min i j) := by unfold IsN at *; omega
theorem IsN.max {x y : Int} {i j : Nat} (h : IsN x i) (k : IsN y j) : IsN (Max.max x y) (Max.max i j) := by unfold IsN at *; omega
/-- The same, found by its form. -/
class IsNc (z : Int) (j : outParam Nat) : Prop where
  out : IsN z j
instance IsNc.cast {j : Nat} : IsNc (j : Int) j := ⟨rfl⟩
instance IsNc.l0 : IsNc 0 0 := ⟨rfl⟩
instance IsNc.l1 : IsNc 1 1 := ⟨rfl⟩
instance IsNc.l2 : IsNc 2 2 := ⟨rfl⟩
instance IsNc.l3 : IsNc 3 3 := ⟨rfl⟩
instance IsNc.l4 : IsNc 4 4 := ⟨rfl⟩
instance IsNc.l5 : IsNc 5 5 := ⟨rfl⟩
instance IsNc.l6 : IsNc 6 6 := ⟨rfl⟩
instance IsNc.l7 : IsNc 7 7 := ⟨rfl⟩
instance IsNc.l8 : IsNc 8 8 := ⟨rfl⟩
instance IsNc.l9 : IsNc 9 9 := ⟨rfl⟩
instance IsNc.l10 : IsNc 10 10 := ⟨rfl⟩
instance IsNc.l11 : IsNc 11 11 := ⟨rfl⟩
instance IsNc.l12 : IsNc 12 12 := ⟨rfl⟩
instance IsNc.l13 : IsNc 13 13 := ⟨rfl⟩
instance IsNc.l14 : IsNc 14 14 := ⟨rfl⟩
instance IsNc.l15 : IsNc 15 15 := ⟨rfl⟩
instance IsNc.l16 : IsNc 16 16 := ⟨rfl⟩
instance IsNc.l17 : IsNc 17 17 := ⟨rfl⟩
instance IsNc.l18 : IsNc 18 18 := ⟨rfl⟩
instance IsNc.l19 : IsNc 19 19 := ⟨rfl⟩
instance IsNc.l20 : IsNc 20 20 := ⟨rfl⟩
instance IsNc.l24 : IsNc 24 24 := ⟨rfl⟩
instance IsNc.l31 : IsNc 31 31 := ⟨rfl⟩
instance IsNc.l32 : IsNc 32 32 := ⟨rfl⟩
instance IsNc.l63 : IsNc 63 63 := ⟨rfl⟩
instance IsNc.l64 : IsNc 64 64 := ⟨rfl⟩
instance IsNc.l70 : IsNc 70 70 := ⟨rfl⟩
instance IsNc.l127 : IsNc 127 127 := ⟨rfl⟩
instance IsNc.l128 : IsNc 128 128 := ⟨rfl⟩
instance IsNc.l134 : IsNc 134 134 := ⟨rfl⟩
instance IsNc.l208 : IsNc 208 208 := ⟨rfl⟩
instance IsNc.l240 : IsNc 240 240 := ⟨rfl⟩
instance IsNc.l255 : IsNc 255 255 := ⟨rfl⟩
instance IsNc.l256 : IsNc 256 256 := ⟨rfl⟩
instance IsNc.add {x y : Int} {i j : Nat} [h : IsNc x i] [k : IsNc y j] : IsNc (x + y) (i + j) := ⟨h.out.add k.out⟩
instance IsNc.mul {x y : Int} {i j : Nat} [h : IsNc x i] [k : IsNc y j] : IsNc (x * y) (i * j) := ⟨h.out.mul k.out⟩
instance IsNc.div {x y : Int} {i j : Nat} [h : IsNc x i] [k : IsNc y j] : IsNc (x / y) (i / j) := ⟨h.out.div k.out⟩
instance IsNc.mod {x y : Int} {i j : Nat} [h : IsNc x i] [k : IsNc y j] : IsNc (x % y) (i % j) := ⟨h.out.mod k.out⟩
instance IsNc.min {x y : Int} {i j : Nat} [h : IsNc x i] [k : IsNc y j] : IsNc (Min.min x y) (Min.min i j) := ⟨h.out.min k.out⟩
instance IsNc.max {x y : Int} {i j : Nat} [h : IsNc x i] [k : IsNc y j] : IsNc (Max.max x y) (Max.max i j) := ⟨h.out.max k.out⟩
theorem IsN.auto {z : Int} {j : Nat} [h : IsNc z j] : IsN z j := h.out
theorem IsN.sub {x y : Int} {i j : Nat} (h : IsN x i) (k : IsN y j) (l : j ≤ i) : IsN (x - y) (i - j) := by unfold IsN at *; omega
theorem IsN.toNat {x : Int} (h : 0 ≤ x) : IsN x x.toNat := by unfold IsN; omega
section
variable {P : Program} {a : Act} {x y z : Operand} {t u ty : TypeId} {m n : Int} {k : IntKind}
/-- Another spelling. -/
theorem V.as {op : Op} {m' : Int} (h : Val P op ty a (.int k m)) (e : m = m') : Val P op ty a (.int k m') := e ▸ h
theorem V.add (hx : a.eval x = .int k m) (hy : a.eval y = .int k n) : Val P (.binOp .add t x y u) ty a (.int k (k.wrap (m + n))) := fun d pos af g w => by
  simp only [execOp, hx, hy, binOp_add, Op.intArith, eqGuard]; rfl
theorem V.sub (hx : a.eval x = .int k m) (hy : a.eval y = .int k n) : Val P (.binOp .sub t x y u) ty a (.int k (k.wrap (m - n))) := fun d pos af g w => by
  simp only [execOp, hx, hy, binOp_sub, Op.intArith, eqGuard]; rfl
theorem V.mul (hx : a.eval x = .int k m) (hy : a.eval y = .int k n) : Val P (.binOp .mul t x y u) ty a (.int k (k.wrap (m * n))) := fun d pos af g w => by
  simp only [execOp, hx, hy, binOp_mul, Op.intArith, eqGuard]; rfl
theorem V.addR (hk : k ≠ .i64) (hx : a.eval x = .int k m) (hy : a.eval y = .int k n) : Val P (.binOp .add t x y u) ty a (.int k (k.wrap (m + n))) := V.add hx hy
theorem V.addI (hx : a.eval x = .int .i64 m) (hy : a.eval y = .int .i64 n) (h : -9223372036854775808 ≤ m + n ∧ m + n ≤ 9223372036854775807) : Val P (.binOp .add t x y u) ty a (.int .i64 (m + n)) := by
  have := V.add (P := P) (t := t) (u := u) (ty := ty) hx hy; rwa [IntWalk.i64_in _ h] at this
theorem V.subR (hk : k ≠ .i64) (hx : a.eval x = .int k m) (hy : a.eval y = .int k n) : Val P (.binOp .sub t x y u) ty a (.int k (k.wrap (m - n))) := V.sub hx hy
theorem V.subI (hx : a.eval x = .int .i64 m) (hy : a.eval y = .int .i64 n) (h : -9223372036854775808 ≤ m - n ∧ m - n ≤ 9223372036854775807) : Val P (.binOp .sub t x y u) ty a (.int .i64 (m - n)) := by
  have := V.sub (P := P) (t := t) (u := u) (ty := ty) hx hy; rwa [IntWalk.i64_in _ h] at this
theorem V.mulR (hk : k ≠ .i64) (hx : a.eval x = .int k m) (hy : a.eval y = .int k n) : Val P (.binOp .mul t x y u) ty a (.int k (k.wrap (m * n))) := V.mul hx hy
theorem V.mulI (hx : a.eval x = .int .i64 m) (hy : a.eval y = .int .i64 n) (h : -9223372036854775808 ≤ m * n ∧ m * n ≤ 9223372036854775807) : Val P (.binOp .mul t x y u) ty a (.int .i64 (m * n)) := by
  have := V.mul (P := P) (t := t) (u := u) (ty := ty) hx hy; rwa [IntWalk.i64_in _ h] at this
theorem V.neg (hx : a.eval x = .int .i64 n) (h : -9223372036854775807 ≤ n ∧ n ≤ 9223372036854775807) : Val P (.unOp .neg t x) ty a (.int .i64 (-n)) := fun d pos af g w => by
  have e : Op.unary .neg (.int .i64 n) = pure (.int .i64 (IntKind.i64.wrap (0 - n))) := rfl
  simp only [execOp, hx, e, Int.zero_sub, IntWalk.i64_in (-n) (by omega)]; rfl
theorem V.quo (hx : a.eval x = .int .i64 m) (hy : a.eval y = .int .i64 n) (h : 0 ≤ m ∧ m ≤ 9223372036854775807) (h2 : 0 < n) : Val P (.binOp .quo t x y u) ty a (.int .i64 (m / n)) := fun d pos af g w => by
  have e1 : m.tdiv n = m / n := Int.tdiv_eq_ediv_of_nonneg h.1
  have e2 : 0 ≤ m / n := Int.ediv_nonneg h.1 (by omega)
  have e3 : m / n ≤ m := Int.ediv_le_self n h.1
  have hn : n ≠ 0 := by omega
  simp only [execOp, hx, hy, binOp_quo, Op.intDiv, eqGuard, if_neg hn, e1, IntWalk.i64_in (m / n) (by omega)]; rfl
theorem V.rem (hx : a.eval x = .int k m) (hy : a.eval y = .int k n) (h : 0 ≤ m) (h2 : 0 < n) : Val P (.binOp .rem t x y u) ty a (.int k (m % n)) := fun d pos af g w => by
  have hn : n ≠ 0 := by omega
  simp only [execOp, hx, hy, binOp_rem, Op.intDiv, eqGuard, if_neg hn, Int.tmod_eq_emod_of_nonneg h]; rfl
theorem V.remT (hx : a.eval x = .int k m) (hy : a.eval y = .int k n) (h2 : n ≠ 0) : Val P (.binOp .rem t x y u) ty a (.int k (m.tmod n)) := fun d pos af g w => by
  simp only [execOp, hx, hy, binOp_rem, Op.intDiv, eqGuard, if_neg h2]; rfl
theorem V.quoT (hx : a.eval x = .int k m) (hy : a.eval y = .int k n) (h2 : n ≠ 0) : Val P (.binOp .quo t x y u) ty a (.int k (k.wrap (m.tdiv n))) := fun d pos af g w => by
  simp only [execOp, hx, hy, binOp_quo, Op.intDiv, eqGuard, if_neg h2]; rfl
theorem V.shl {yk : IntKind} {j : Nat} (hx : a.eval x = .int k m) (hy : a.eval y = .int yk n) (hj : IsN n j) (h : j < 64) (hk : k.bits = 64) : Val P (.binOp .shl t x y u) ty a (.int k (k.wrap (m * 2 ^ j))) := fun d pos af g w => by
  unfold IsN at hj
  have h0 : ¬ n < 0 := by omega
  have hm : Min.min n.toNat k.bits = j := by omega
  simp only [execOp, hx, hy, binOp_shl, Op.shift, eqGuard, if_neg h0, hm]; rfl
theorem V.shlI {yk : IntKind} {j : Nat} (hx : a.eval x = .int .i64 m) (hy : a.eval y = .int yk n) (hj : IsN n j) (h : j < 64) (h1 : -9223372036854775808 ≤ m * 2 ^ j ∧ m * 2 ^ j ≤ 9223372036854775807) : Val P (.binOp .shl t x y u) ty a (.int .i64 (m * 2 ^ j)) := by
  have := V.shl (P := P) (t := t) (u := u) (ty := ty) hx hy hj h rfl; rwa [IntWalk.i64_in _ h1] at this
theorem V.shl1 {yk : IntKind} {j : Nat} (hx : a.eval x = .int .i64 1) (hy : a.eval y = .int yk n) (hj : IsN n j) (h : j < 63) : Val P (.binOp .shl t x y u) ty a (.int .i64 (2 ^ j)) := by
  have e : (2 : Int) ^ j ≤ 4611686018427387904 := by
    have := Nat.pow_le_pow_right (n := 2) (by omega) (show j ≤ 62 by omega)
    have h2 : (2 : Int) ^ j = ((2 ^ j : Nat) : Int) := by push_cast; rfl
    omega
  have e0 : (0 : Int) ≤ 2 ^ j := Int.pow_nonneg (by omega)
  have := V.shl (P := P) (t := t) (u := u) (ty := ty) hx hy hj (by omega) rfl
  rwa [Int.one_mul, IntWalk.i64_in _ (by omega)] at this
theorem V.shr {yk : IntKind} {j : Nat} (hx : a.eval x = .int k m) (hy : a.eval y = .int yk n) (hj : IsN n j) (h : j < 64) (hk : k.bits = 64) : Val P (.binOp .shr t x y u) ty a (.int k (m / 2 ^ j)) := fun d pos af g w => by
  unfold IsN at hj
  have e : m.fdiv (2 ^ j) = m / 2 ^ j := Int.fdiv_eq_ediv_of_nonneg _ (Int.pow_nonneg (by omega))
  have h0 : ¬ n < 0 := by omega
  have hm : Min.min n.toNat k.bits = j := by omega
  simp only [execOp, hx, hy, binOp_shr, Op.shift, eqGuard, if_neg h0, hm, e]; rfl
theorem V.and (hx : a.eval x = .int k m) (hy : a.eval y = .int k n) : Val P (.binOp .and t x y u) ty a (.int k (bits .and k m n)) := fun d pos af g w => by
  simp only [execOp, hx, hy, binOp_and, intBits_and, eqGuard]; rfl
theorem V.or (hx : a.eval x = .int k m) (hy : a.eval y = .int k n) : Val P (.binOp .or t x y u) ty a (.int k (bits .or k m n)) := fun d pos af g w => by
  simp only [execOp, hx, hy, binOp_or, intBits_or, eqGuard]; rfl
theorem V.xor (hx : a.eval x = .int k m) (hy : a.eval y = .int k n) : Val P (.binOp .xor t x y u) ty a (.int k (bits .xor k m n)) := fun d pos af g w => by
  simp only [execOp, hx, hy, binOp_xor, intBits_xor, eqGuard]; rfl
theorem V.eql (hx : a.eval x = .int k m) (hy : a.eval y = .int k n) : Val P (.binOp .eql t x y u) ty a (.bool (decide (m = n))) := fun d pos af g w => by
  simp only [execOp, hx, hy, binOp_eql, eqGuard_at_int]; rfl
theorem V.neq (hx : a.eval x = .int k m) (hy : a.eval y = .int k n) : Val P (.binOp .neq t x y u) ty a (.bool (decide (m ≠ n))) := fun d pos af g w => by
  simp only [execOp, hx, hy, binOp_neq, eqGuard_at_int, ne_eq, decide_not]; rfl
theorem V.lss (hx : a.eval x = .int k m) (hy : a.eval y = .int k n) : Val P (.binOp .lss t x y u) ty a (.bool (decide (m < n))) := fun d pos af g w => by
  simp only [execOp, hx, hy, binOp_lss, eqGuard]; rfl
theorem V.leq (hx : a.eval x = .int k m) (hy : a.eval y = .int k n) : Val P (.binOp .leq t x y u) ty a (.bool (decide (m ≤ n))) := fun d pos af g w => by
  simp only [execOp, hx, hy, binOp_leq, eqGuard]; rfl
theorem V.gtr (hx : a.eval x = .int k m) (hy : a.eval y = .int k n) : Val P (.binOp .gtr t x y u) ty a (.bool (decide (n < m))) := fun d pos af g w => by
  simp only [execOp, hx, hy, binOp_gtr, eqGuard]; rfl
theorem V.geq (hx : a.eval x = .int k m) (hy : a.eval y = .int k n) : Val P (.binOp .geq t x y u) ty a (.bool (decide (n ≤ m))) := fun d pos af g w => by
  simp only [execOp, hx, hy, binOp_geq, eqGuard]; rfl
theorem V.not {b : Bool} (hx : a.eval x = .bool b) : Val P (.unOp .not t x) ty a (.bool (!b)) := fun d pos af g w => by
  simp only [execOp, hx, Op.unary]; rfl
theorem V.notD {p : Prop} [Decidable p] (hx : a.eval x = .bool (decide p)) : Val P (.unOp .not t x) ty a (.bool (decide (¬ p))) := by
  rw [decide_not]; exact V.not hx
theorem V.eqlB {b c : Bool} (ht : P.underlying t = some .bool) (hx : a.eval x = .bool b) (hy : a.eval y = .bool c) : Val P (.binOp .eql t x y u) ty a (.bool (decide (b = c))) := fun d pos af g w => by
  have e := run_eql_bool (P := P) w t b c ht
  have e2 : eqGuard .eql t x y (.bool b) (.bool c) = pure () := rfl
  simp only [execOp, hx, hy, e2, Sem.run_bind, Sem.run_pure, Result.andThen_ok, e]
  rfl
theorem V.neqB {b c : Bool} (ht : P.underlying t = some .bool) (hx : a.eval x = .bool b) (hy : a.eval y = .bool c) : Val P (.binOp .neq t x y u) ty a (.bool (decide (b ≠ c))) := fun d pos af g w => by
  have e := run_neq_bool (P := P) w t b c ht
  have e2 : eqGuard .neq t x y (.bool b) (.bool c) = pure () := rfl
  simp only [execOp, hx, hy, e2, Sem.run_bind, Sem.run_pure, Result.andThen_ok, e, ne_eq, decide_not]; rfl
theorem V.eqlBD {p q : Prop} [Decidable p] [Decidable q] (ht : P.underlying t = some .bool) (hx : a.eval x = .bool (decide p)) (hy : a.eval y = .bool (decide q)) : Val P (.binOp .eql t x y u) ty a (.bool (decide (p ↔ q))) := by
  have := V.eqlB (ty := ty) (u := u) ht hx hy
  rwa [show decide (decide p = decide q) = decide (p ↔ q) by by_cases hp : p <;> by_cases hq : q <;> simp [hp, hq]] at this
theorem V.neqBD {p q : Prop} [Decidable p] [Decidable q] (ht : P.underlying t = some .bool) (hx : a.eval x = .bool (decide p)) (hy : a.eval y = .bool (decide q)) : Val P (.binOp .neq t x y u) ty a (.bool (decide (¬ (p ↔ q)))) := by
  have := V.neqB (ty := ty) (u := u) ht hx hy
  rwa [show decide (decide p ≠ decide q) = decide (¬ (p ↔ q)) by by_cases hp : p <;> by_cases hq : q <;> simp [hp, hq]] at this
theorem V.convI {k' : IntKind} (hs : (P.underlying t).isSome = true) (hd : P.underlying u = some (.int k')) (hx : a.eval x = .int k m) (h : k'.wrap m = m) : Val P (.convert t u x) ty a (.int k' m) := fun d pos af g w => by
  have e : P.intKind u = k' := by simp [Program.intKind, hd]
  have e2 := run_convert_int (P := P) w t u k m hs (by rw [e]; exact hd)
  rw [e, h] at e2
  simp only [execOp, hx, Sem.run_bind, e2, Result.andThen_ok, Sem.run_pure]
theorem V.conv {k' : IntKind} (hs : (P.underlying t).isSome = true) (hd : P.underlying u = some (.int k')) (hx : a.eval x = .int k m) : Val P (.convert t u x) ty a (.int k' (k'.wrap m)) := fun d pos af g w => by
  have e : P.intKind u = k' := by simp [Program.intKind, hd]
  have e2 := run_convert_int (P := P) w t u k m hs (by rw [e]; exact hd)
  rw [e] at e2
  simp only [execOp, hx, Sem.run_bind, e2, Result.andThen_ok, Sem.run_pure]
theorem V.extract {vs : List Value} {i : Nat} {v : Value} (hx : a.eval x = .tuple vs.toArray) (hv : vs[i]? = some v) : Val P (.extract x i) ty a v := fun d pos af g w => by
  have e : (vs.toArray)[i]? = some v := by simpa using hv
  simp only [execOp, hx, Instr.extract, e]; rfl
theorem V.nilCheck {p : Addr} (hx : a.eval x = .pointer (some p)) : Val P (.nilCheck x) ty a (.pointer (some p)) := fun d pos af g w => by
  simp only [execOp, hx]; rfl
theorem V.nilCheckF {f : FuncId} {bs cs : Array Value} (hx : a.eval x = .func (.func f) bs cs) : Val P (.nilCheck x) ty a (.func (.func f) bs cs) := fun d pos af g w => by
  simp only [execOp, hx]; rfl
theorem V.len {ad : Option Addr} {n c : Nat} {e : TypeId} (ht : P.underlying t = some (.slice e)) (hx : a.eval x = .slice ad n c) : Val P (.call { callee := .builtin .len, args := #[x], argTypes := #[t] }) ty a (.int .i64 n) := fun d pos af g w => by
  have e : P.elem t = e := by simp [Program.elem, ht]
  have e2 := run_len_slice (P := P) w t ty ad n c (by rw [e]; exact ht)
  simp only [execOp, resolve, invoke, builtin, Sem.run_bind, Sem.run_pure, Result.andThen_ok, List.map_toArray, List.map_cons, List.map_nil, hx, e2]
  rfl
theorem V.max {ts : Array TypeId} (hx : a.eval x = .int k m) (hy : a.eval y = .int k n) : Val P (.call { callee := .builtin .max, args := #[x, y], argTypes := ts }) ty a (.int k (Max.max m n)) := fun d pos af g w => by
  simp only [execOp, resolve, invoke, builtin, Sem.run_bind, Sem.run_pure, Result.andThen_ok, List.map_toArray, List.map_cons, List.map_nil, hx, hy, run_max_int2']
theorem V.min {ts : Array TypeId} (hx : a.eval x = .int k m) (hy : a.eval y = .int k n) : Val P (.call { callee := .builtin .min, args := #[x, y], argTypes := ts }) ty a (.int k (Min.min m n)) := fun d pos af g w => by
  simp only [execOp, resolve, invoke, builtin, Sem.run_bind, Sem.run_pure, Result.andThen_ok, List.map_toArray, List.map_cons, List.map_nil, hx, hy, run_min_int2']
theorem V.max3 {ts : Array TypeId} {l : Int} (hx : a.eval x = .int k m) (hy : a.eval y = .int k n) (hz : a.eval z = .int k l) : Val P (.call { callee := .builtin .max, args := #[x, y, z], argTypes := ts }) ty a (.int k (Max.max (Max.max m n) l)) := fun d pos af g w => by
  simp only [execOp, resolve, invoke, builtin, Sem.run_bind, Sem.run_pure, Result.andThen_ok, List.map_toArray, List.map_cons, List.map_nil, hx, hy, hz, run_max_int3']
theorem V.min3 {ts : Array TypeId} {l : Int} (hx : a.eval x = .int k m) (hy : a.eval y = .int k n) (hz : a.eval z = .int k l) : Val P (.call { callee := .builtin .min, args := #[x, y, z], argTypes := ts }) ty a (.int k (Min.min (Min.min m n) l)) := fun d pos af g w => by
  simp only [execOp, resolve, invoke, builtin, Sem.run_bind, Sem.run_pure, Result.andThen_ok, List.map_toArray, List.map_cons, List.map_nil, hx, hy, hz, run_min_int3']
/-- The element's place. -/
theorem V.indexSl {b off n c j s js q : Nat} {e : TypeId} {i : Int} (ht : P.underlying t = some (.slice e)) (hs : (P.info? e).map (·.size) = some s) (hx : a.eval x = .slice (some ⟨b, off, none⟩) n c) (hy : a.eval y = .int k i) (hj : IsN i j) (hn : j < n) (hjs : j * s = js) (hq : off + js = q) :
    Val P (.indexAddr t x y) ty a (.pointer (some ⟨b, q, none⟩)) := fun d pos af g w => by
  unfold IsN at hj
  subst hjs
  have e0 : P.elem t = e := by simp [Program.elem, ht]
  have e2 := run_indexAt_slice (P := P) w t ⟨b, off, none⟩ n c k i (by rw [e0]; exact ht)
  rw [if_pos (by omega), e0, run_sizeOf' w hs, Result.andThen_ok, Addr.add_mid, show i.toNat = j by omega, hq] at e2
  simp only [execOp, hx, hy, Sem.run_bind, e2, Result.andThen_ok, Sem.run_pure]
theorem V.indexAr {b off n j s js q : Nat} {e : TypeId} {i : Int} (ht : P.underlying t = some (.array n e)) (hs : (P.info? e).map (·.size) = some s) (hx : a.eval x = .pointer (some ⟨b, off, none⟩)) (hy : a.eval y = .int k i) (hj : IsN i j) (hn : j < n) (hjs : j * s = js) (hq : off + js = q) :
    Val P (.indexAddr t x y) ty a (.pointer (some ⟨b, q, none⟩)) := fun d pos af g w => by
  unfold IsN at hj
  subst hjs
  have e0 : P.elem t = e := by simp [Program.elem, ht]
  have e1 : P.arrayLen t = n := by simp [Program.arrayLen, ht]
  have e2 := run_indexAt_array (P := P) w t ⟨b, off, none⟩ k i (by rw [e0, e1]; exact ht)
  rw [e1, if_pos (by omega), e0, run_sizeOf' w hs, Result.andThen_ok, Addr.add_mid, show i.toNat = j by omega, hq] at e2
  simp only [execOp, hx, hy, Sem.run_bind, e2, Result.andThen_ok, Sem.run_pure]
/-- An element of an array of ints. -/
theorem V.indexIv {l : List Int} {n j : Nat} {e : TypeId} {i : Int} (ht : P.underlying t = some (.array n e)) (he : P.underlying e = some (.int .i64)) (hs : (P.info? e).map (·.size) = some 1) (hx : a.eval x = .agg (iv l)) (hy : a.eval y = .int k i) (hl : Len l n) (hj : IsN i j) (hn : j < n) :
    Val P (.index t x y) ty a (.int .i64 (nth l j)) := fun d pos af g w => by
  unfold IsN at hj
  have e0 : P.elem t = e := by simp [Program.elem, ht]
  have e1 : P.arrayLen t = n := by simp [Program.arrayLen, ht]
  have e3 : (isAgg e).run P w = .ok false w := by simp [isAgg, run_underlying he]
  have e2 := run_index_arr (P := P) w t (iv l) k i (by rw [e0, e1]; exact ht)
  rw [e1, if_pos (by omega), e0, run_sizeOf' w hs, Result.andThen_ok, show i.toNat = j by omega, Nat.mul_one, run_part, e3, Result.andThen_ok, iv_get l j (by rw [hl.out]; exact hn)] at e2
  simp only [execOp, hx, hy, Sem.run_bind, e2, Result.andThen_ok, Sem.run_pure, Bool.false_eq_true, if_false]
end
section
variable {P : Program} {ops : Array Oper} {Q : Exit → Act → World → Prop} {rest : List Oper} {a : Act} {W w : World} {rs : List Res} {d : Option Tmp} {x y : Operand} {t ty : TypeId} {pos : String} {af : Array Edge} {g : Option (Nat × Bool)} {k : IntKind}
/-- An element of a slice that came in: the cells at its place. -/
theorem wpl_indexW {ad : Option Addr} {n c j s : Nat} {cs : List Value} {e : TypeId} {i : Int} (hv : Sl W s (.slice ad n c) n cs) (ht : P.underlying t = some (.slice e)) (hs : (P.info? e).map (·.size) = some s) (hx : a.eval x = .slice ad n c) (hy : a.eval y = .int k i) (hj : IsN i j) (hn : j < n)
    (hw : Region.wanted ⟨d, .indexAddr t x y, ty, pos, af, g⟩ (yielded ops a.tmps) = true)
    (h : ∀ b o, W.rangeAt b o ((cs.drop (j * s)).take s) → (Oper.mk d (.move (.const (.pointer (some ⟨b, o, none⟩)))) ty pos af g).wp P a w (wpList P ops Q rest) Q) : wpList P ops Q (⟨d, .indexAddr t x y, ty, pos, af, g⟩ :: rest) a w := by
  obtain ⟨hl, a', c', e1, _, _, hor⟩ := hv
  cases e1
  rcases hor with h0 | ⟨b, off, rfl, hc⟩
  · omega
  · refine wplV _ (V.indexSl (q := off + j * s) ht hs hx hy hj hn rfl rfl) hw (h b _ fun m v hv => ?_)
    rw [List.getElem?_take] at hv
    split at hv
    · rename_i hm
      rw [List.getElem?_drop] at hv
      have hjs : j * s + s ≤ n * s := by have := Nat.mul_le_mul_right s hn; rw [Nat.succ_mul] at this; exact this
      rw [Nat.add_assoc, hc (j * s + m) (by omega), hv]
    · cases hv
theorem wpl_indexI {ad : Option Addr} {n c j : Nat} {l : List Int} {e : TypeId} {i : Int} (hv : Sl W 1 (.slice ad n c) n (l.map (Value.int .i64))) (ht : P.underlying t = some (.slice e)) (hs : (P.info? e).map (·.size) = some 1) (hx : a.eval x = .slice ad n c) (hy : a.eval y = .int k i) (hj : IsN i j) (hn : j < n)
    (hw : Region.wanted ⟨d, .indexAddr t x y, ty, pos, af, g⟩ (yielded ops a.tmps) = true)
    (h : ∀ b o, W.cell? ⟨b, o, none⟩ = some (.int .i64 (nth l j)) → (Oper.mk d (.move (.const (.pointer (some ⟨b, o, none⟩)))) ty pos af g).wp P a w (wpList P ops Q rest) Q) : wpList P ops Q (⟨d, .indexAddr t x y, ty, pos, af, g⟩ :: rest) a w :=
  wpl_indexW hv ht hs hx hy hj hn hw fun b o hr => h b o (by
    have hl : l.length = n := by have := hv.1; simpa using this
    have := hr 0 (.int .i64 (nth l j)) (by simp [nth, List.getD, List.getElem?_drop, hl, hn])
    simpa using this)
/-- An element of a slice of one's own. -/
theorem wpl_indexO {ad : Option Addr} {n c j s q : Nat} {cs : List Value} {e et : TypeId} {i : Int} {rs' : List Res} (hS : St W w rs) (hx : a.eval x = .slice ad n c) (hp : Pull (own et s ad n c cs) rs rs') (ht : P.underlying t = some (.slice e)) (hs : (P.info? e).map (·.size) = some s) (hy : a.eval y = .int k i) (hj : IsN i j) (hn : j < n) (hq : j * s = q)
    (hw : Region.wanted ⟨d, .indexAddr t x y, ty, pos, af, g⟩ (yielded ops a.tmps) = true)
    (h : ∀ b, ad = some ⟨b, 0, none⟩ → (Oper.mk d (.move (.const (.pointer (some ⟨b, q, none⟩)))) ty pos af g).wp P a w (wpList P ops Q rest) Q) : wpList P ops Q (⟨d, .indexAddr t x y, ty, pos, af, g⟩ :: rest) a w := by
  obtain ⟨b, rfl⟩ := own_some hS hp (by omega)
  exact wplV _ (V.indexSl (q := q) ht hs hx hy hj hn hq (Nat.zero_add _)) hw (h b rfl)
end
/-- A field of a struct. -/
structure FieldOf (P : Program) (s : TypeId) (f : Nat) (fo : Nat) (ft : TypeId) : Prop where
  ex : ∃ fs fl, P.underlying s = some (.struct fs) ∧ fs[f]? = some fl ∧ fl.offset = fo ∧ fl.type = ft
  sz : ∃ n, (P.info? ft).map (·.size) = some n ∧ n ≠ 0
section
variable {P : Program} {a : Act} {x : Operand} {t ft ty : TypeId} {f fo : Nat}
theorem FieldOf.mk' (fs : Array Field) (fl : Field) (n : Nat) (h1 : P.underlying t = some (.struct fs)) (h2 : fs[f]? = some fl) (h3 : fl.offset = fo) (h4 : fl.type = ft) (h5 : (P.info? ft).map (·.size) = some n) (h6 : n ≠ 0) : FieldOf P t f fo ft :=
  ⟨⟨fs, fl, h1, h2, h3, h4⟩, ⟨n, h5, h6⟩⟩
theorem V.fieldAddr {b off q : Nat} (hf : FieldOf P t f fo ft) (hx : a.eval x = .pointer (some ⟨b, off, none⟩)) (hq : off + fo = q) : Val P (.fieldAddr t x f) ty a (.pointer (some ⟨b, q, none⟩)) := fun d pos af g w => by
  obtain ⟨⟨fs, fl, h1, h2, rfl, rfl⟩, n, h3, h4⟩ := hf
  simp only [execOp, hx, Instr.fieldAt, Instr.sureAddr, Sem.run_bind, run_underlying h1, Result.andThen_ok, h2, fieldPlace, run_sizeOf' w h3, Sem.run_pure]
  rw [if_neg h4]
  simp only [Sem.run_pure, Result.andThen_ok, Addr.add_mid, hq]
theorem V.field1 {cs : List Value} {v : Value} (hf : FieldOf P t f fo ft) (ho : One P ft) (hx : a.eval x = .agg cs.toArray) (hv : cs[fo]? = some v) : Val P (.field t x f) ty a v := fun d pos af g w => by
  obtain ⟨⟨fs, fl, h1, h2, rfl, rfl⟩, n, h3, h4⟩ := hf
  have e : (cs.toArray)[fl.offset]? = some v := by simpa using hv
  simp only [execOp, hx, Instr.field, Sem.run_bind, run_underlying h1, Result.andThen_ok, h2, asAgg, Sem.run_pure, run_part, run_isAgg w ho.1, Bool.false_eq_true, if_false, e]
theorem V.fieldN {cs cs' : List Value} {n : Nat} (hf : FieldOf P t f fo ft) (ho : RowN P ft n) (hx : a.eval x = .agg cs.toArray) (hv : (cs.drop fo).take n = cs') : Val P (.field t x f) ty a (.agg cs'.toArray) := fun d pos af g w => by
  obtain ⟨⟨fs, fl, h1, h2, rfl, rfl⟩, _, h3, h4⟩ := hf
  have e : (cs.toArray).extract fl.offset (fl.offset + n) = cs'.toArray := by
    rw [← hv]; simp
  simp only [execOp, hx, Instr.field, Sem.run_bind, run_underlying h1, Result.andThen_ok, h2, asAgg, Sem.run_pure, run_part, run_isAgg w ho.1, if_true, run_sizeOf' w ho.2, e]
end
end Go.Proofs.YthmkhpijdpbfbaaDoor
