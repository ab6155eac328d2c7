/- Regions that draw their order, by the laws of XPure: what computes is taken as soon as it may be; ways that meet again are joined. -/
import Derived.Test.YthmkhpijdpbfbaaDoorTy2
namespace Go.Proofs.YthmkhpijdpbfbaaDoor
open Go.RowKit
set_option linter.unusedVariables false
section
variable {P : Program} {Q : Exit → Act → World → Prop} {md : Region.Mode} {D : List Nat} {S : World → Prop} {l : List Oper} {fuel : Nat} {listed : Array Bool} {a : Act} {w : World}
  {d : Option Tmp} {op : Op} {ty : TypeId} {pos : String} {af : Array Edge} {g : Option (Nat × Bool)}
/-- An operation that only computes: its value. -/
theorem takeV (i : Nat) (v : Value) (hi : AtL ⟨d, op, ty, pos, af, g⟩ i l) (hs : Region.noSelect l.toArray = true) (hf : Region.free md l.toArray listed i = true) (hr : (Region.ready md l.toArray listed).contains i = true)
    (hQ : ∀ v c a w, Q (.panic c) (a.put d v) w → Q (.panic c) a w) (hv : Val P op ty a v) (hw : Region.wanted ⟨d, op, ty, pos, af, g⟩ (yielded l.toArray a.tmps) = true)
    (h : (Oper.mk d (.move (.const v)) ty pos af g).wp P a w (wpAnyN P md l.toArray Q D S fuel (listed.setIfInBounds i true)) Q) : wpAnyN P md l.toArray Q D S (fuel + 1) listed a w :=
  takeP i hi hs hf hr hQ (fun w => wplV v hv hw (wp_const v _ (show wpList P l.toArray _ [] _ _ from wpList_nil ⟨rfl, rfl⟩))) (by cases d <;> rfl) h
theorem takeM (i : Nat) (x : Operand) (hi : AtL ⟨d, .move x, ty, pos, af, g⟩ i l) (hs : Region.noSelect l.toArray = true) (hf : Region.free md l.toArray listed i = true) (hr : (Region.ready md l.toArray listed).contains i = true)
    (hQ : ∀ v c a w, Q (.panic c) (a.put d v) w → Q (.panic c) a w) (hw : Region.wanted ⟨d, .move x, ty, pos, af, g⟩ (yielded l.toArray a.tmps) = true)
    (h : (Oper.mk d (.move x) ty pos af g).wp P a w (wpAnyN P md l.toArray Q D S fuel (listed.setIfInBounds i true)) Q) : wpAnyN P md l.toArray Q D S (fuel + 1) listed a w :=
  takeP i hi hs hf hr hQ (a1 := a.put d (a.eval x)) (fun w => wplV _ (fun _ _ _ _ _ => rfl) hw (wp_const _ _ (show wpList P l.toArray _ [] _ _ from wpList_nil ⟨rfl, rfl⟩))) (by cases d <;> rfl) h
theorem takeA (i : Nat) (x : Operand) (hi : AtL ⟨d, .assign x, ty, pos, af, g⟩ i l) (hs : Region.noSelect l.toArray = true) (hf : Region.free md l.toArray listed i = true) (hr : (Region.ready md l.toArray listed).contains i = true)
    (hQ : ∀ v c a w, Q (.panic c) (a.put d v) w → Q (.panic c) a w) (hw : Region.wanted ⟨d, .assign x, ty, pos, af, g⟩ (yielded l.toArray a.tmps) = true)
    (h : (Oper.mk d (.move x) ty pos af g).wp P a w (wpAnyN P md l.toArray Q D S fuel (listed.setIfInBounds i true)) Q) : wpAnyN P md l.toArray Q D S (fuel + 1) listed a w :=
  takeP i hi hs hf hr hQ (a1 := a.put d (a.eval x)) (fun w => wplV _ (fun _ _ _ _ _ => rfl) hw (wp_const _ _ (show wpList P l.toArray _ [] _ _ from wpList_nil ⟨rfl, rfl⟩))) (by cases d <;> rfl) h
theorem takePick (i : Nat) (b : Bool) {c x y : Operand} (hi : AtL ⟨d, .pick c x y, ty, pos, af, g⟩ i l) (hs : Region.noSelect l.toArray = true) (hf : Region.free md l.toArray listed i = true) (hr : (Region.ready md l.toArray listed).contains i = true)
    (hQ : ∀ v c a w, Q (.panic c) (a.put d v) w → Q (.panic c) a w) (hc : a.eval c = .bool b) (hw : Region.wanted ⟨d, .pick c x y, ty, pos, af, g⟩ (yielded l.toArray a.tmps) = true)
    (h : (Oper.mk d (.move (bif b then x else y)) ty pos af g).wp P a w (wpAnyN P md l.toArray Q D S fuel (listed.setIfInBounds i true)) Q) : wpAnyN P md l.toArray Q D S (fuel + 1) listed a w :=
  takeP i hi hs hf hr hQ (a1 := a.put d (a.eval (bif b then x else y))) (fun w => wplV _ (fun _ _ _ _ w => by simp only [execOp, hc, asBool, Sem.run_bind, Sem.run_pure, Result.andThen_ok]; cases b <;> rfl) hw (wp_const _ _ (show wpList P l.toArray _ [] _ _ from wpList_nil ⟨rfl, rfl⟩))) (by cases d <;> rfl) h
theorem takePickT (i : Nat) {c x y : Operand} (hi : AtL ⟨d, .pick c x y, ty, pos, af, g⟩ i l) (hs : Region.noSelect l.toArray = true) (hf : Region.free md l.toArray listed i = true) (hr : (Region.ready md l.toArray listed).contains i = true)
    (hQ : ∀ v c a w, Q (.panic c) (a.put d v) w → Q (.panic c) a w) (hc : a.eval c = .bool true) (hw : Region.wanted ⟨d, .pick c x y, ty, pos, af, g⟩ (yielded l.toArray a.tmps) = true)
    (h : (Oper.mk d (.move x) ty pos af g).wp P a w (wpAnyN P md l.toArray Q D S fuel (listed.setIfInBounds i true)) Q) : wpAnyN P md l.toArray Q D S (fuel + 1) listed a w := takePick i true hi hs hf hr hQ hc hw h
theorem takePickF (i : Nat) {c x y : Operand} (hi : AtL ⟨d, .pick c x y, ty, pos, af, g⟩ i l) (hs : Region.noSelect l.toArray = true) (hf : Region.free md l.toArray listed i = true) (hr : (Region.ready md l.toArray listed).contains i = true)
    (hQ : ∀ v c a w, Q (.panic c) (a.put d v) w → Q (.panic c) a w) (hc : a.eval c = .bool false) (hw : Region.wanted ⟨d, .pick c x y, ty, pos, af, g⟩ (yielded l.toArray a.tmps) = true)
    (h : (Oper.mk d (.move y) ty pos af g).wp P a w (wpAnyN P md l.toArray Q D S fuel (listed.setIfInBounds i true)) Q) : wpAnyN P md l.toArray Q D S (fuel + 1) listed a w := takePick i false hi hs hf hr hQ hc hw h
/-- A Bool that decides of what follows: both ways. -/
theorem takeB (i : Nat) (b : Bool) (hi : AtL ⟨d, op, ty, pos, af, g⟩ i l) (hs : Region.noSelect l.toArray = true) (hf : Region.free md l.toArray listed i = true) (hr : (Region.ready md l.toArray listed).contains i = true)
    (hQ : ∀ v c a w, Q (.panic c) (a.put d v) w → Q (.panic c) a w) (hv : Val P op ty a (.bool b)) (hw : Region.wanted ⟨d, op, ty, pos, af, g⟩ (yielded l.toArray a.tmps) = true)
    (ht : b = true → (Oper.mk d (.move (.const (.bool true))) ty pos af g).wp P a w (wpAnyN P md l.toArray Q D S fuel (listed.setIfInBounds i true)) Q)
    (hn : b = false → (Oper.mk d (.move (.const (.bool false))) ty pos af g).wp P a w (wpAnyN P md l.toArray Q D S fuel (listed.setIfInBounds i true)) Q) : wpAnyN P md l.toArray Q D S (fuel + 1) listed a w := by
  cases b
  · exact takeV i _ hi hs hf hr hQ hv hw (hn rfl)
  · exact takeV i _ hi hs hf hr hQ hv hw (ht rfl)
theorem takeD (i : Nat) (p : Prop) [Decidable p] (hi : AtL ⟨d, op, ty, pos, af, g⟩ i l) (hs : Region.noSelect l.toArray = true) (hf : Region.free md l.toArray listed i = true) (hr : (Region.ready md l.toArray listed).contains i = true)
    (hQ : ∀ v c a w, Q (.panic c) (a.put d v) w → Q (.panic c) a w) (hv : Val P op ty a (.bool (decide p))) (hw : Region.wanted ⟨d, op, ty, pos, af, g⟩ (yielded l.toArray a.tmps) = true)
    (ht : p → (Oper.mk d (.move (.const (.bool true))) ty pos af g).wp P a w (wpAnyN P md l.toArray Q D S fuel (listed.setIfInBounds i true)) Q)
    (hn : ¬ p → (Oper.mk d (.move (.const (.bool false))) ty pos af g).wp P a w (wpAnyN P md l.toArray Q D S fuel (listed.setIfInBounds i true)) Q) : wpAnyN P md l.toArray Q D S (fuel + 1) listed a w :=
  takeB i _ hi hs hf hr hQ hv hw (fun h => ht (of_decide_eq_true h)) (fun h => hn (of_decide_eq_false h))
/-- An operation that its guard passes over. -/
theorem takeN (i : Nat) (hi : AtL ⟨d, op, ty, pos, af, g⟩ i l) (hs : Region.noSelect l.toArray = true) (hf : Region.free md l.toArray listed i = true) (hr : (Region.ready md l.toArray listed).contains i = true)
    (hQ : ∀ v c a w, Q (.panic c) (a.put d v) w → Q (.panic c) a w) (hw : Region.wanted ⟨d, op, ty, pos, af, g⟩ (yielded l.toArray a.tmps) = false)
    (h : (Oper.mk d (.move (.const undef)) ty pos af g).wp P a w (wpAnyN P md l.toArray Q D S fuel (listed.setIfInBounds i true)) Q) : wpAnyN P md l.toArray Q D S (fuel + 1) listed a w :=
  takeP i hi hs hf hr hQ (a1 := a.put d undef) (fun w => wpList_skip hw (wpList_nil ⟨rfl, rfl⟩)) (by cases d <;> rfl) h
end
section
variable {P : Program} {Q : Exit → Act → World → Prop} {a : Act} {W w : World} {c : Code}
/-- Ways that meet again: the frame as a function of the block that was made. -/
theorem wp_join1 {F : Nat → Act} (rs : Nat → List Res) (h : c.wp P (fun e a w => e = .normal ∧ ∃ g, a = F g ∧ St W w (rs g)) a w) (k : ∀ g w, St W w (rs g) → Q .normal (F g) w) : c.wp P Q a w :=
  Code.wp_mono (fun e a w ⟨he, g, ha, hS⟩ => by subst he; subst ha; exact k g w hS) h
theorem wp_join0 {F : Act} (rs : List Res) (h : c.wp P (fun e a w => e = .normal ∧ a = F ∧ St W w rs) a w) (k : ∀ w, St W w rs → Q .normal F w) : c.wp P Q a w :=
  Code.wp_mono (fun e a w ⟨he, ha, hS⟩ => by subst he; subst ha; exact k w hS) h
theorem wp_join2 {F : Nat → Nat → Act} (rs : Nat → Nat → List Res) (h : c.wp P (fun e a w => e = .normal ∧ ∃ g g', a = F g g' ∧ St W w (rs g g')) a w) (k : ∀ g g' w, St W w (rs g g') → Q .normal (F g g') w) : c.wp P Q a w :=
  Code.wp_mono (fun e a w ⟨he, g, g', ha, hS⟩ => by subst he; subst ha; exact k g g' w hS) h
end
end Go.Proofs.YthmkhpijdpbfbaaDoor
