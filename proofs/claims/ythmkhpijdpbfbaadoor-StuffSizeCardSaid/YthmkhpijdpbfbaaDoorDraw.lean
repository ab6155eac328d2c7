/- A region that draws its order, walked in one order: what only computes or reads is done as soon as it may be; what turns the world comes up in whatever order its edges leave open. A condition on the world is shown anew behind each operation but the late ones, ahead of which all that needs it has been done. -/
import Derived.Test.YthmkhpijdpbfbaaDoorOp
namespace Go.Proofs.YthmkhpijdpbfbaaDoor
open Go.RowKit
section
variable {P : Program} {ops : Array Oper} {Q : Exit → Act → World → Prop} {md : Region.Mode} {D : List Nat} {S T : World → Prop}
/-- The two frames look the same to the operation. -/
def Same (ops : Array Oper) (o : Oper) (a b : Act) : Prop :=
  execOp b.eval o = execOp a.eval o ∧ Region.wanted o (yielded ops b.tmps) = Region.wanted o (yielded ops a.tmps) ∧ b.tmps.size = a.tmps.size
theorem Same.refl (o : Oper) (a : Act) : Same ops o a a := ⟨rfl, rfl, rfl⟩
theorem Same.trans {o : Oper} {a b c : Act} (h : Same ops o a b) (k : Same ops o b c) : Same ops o a c := ⟨k.1.trans h.1, k.2.1.trans h.2.1, k.2.2.trans h.2.2⟩
theorem Same.put (o : Oper) (hs : ∀ cs b, o.op ≠ .select cs b) (a : Act) (dst : Option Tmp) (u : Value) (h : ∀ d, dst = some d → d ∉ o.looksAt ops) : Same ops o a (a.put dst u) :=
  ⟨execOp_put o hs a dst u h, wanted_put o a dst u h, by cases dst <;> simp [Act.put]⟩
theorem wpOp_swap {j : Nat} {oi oj : Oper} {v : Value} (hj : ops[j]? = some oj) (hap : oi.apart ops oj = true) (hsi : ∀ cs b, oi.op ≠ .select cs b) (hsj : ∀ cs b, oj.op ≠ .select cs b)
    (hQ : ∀ c a w, Q (.panic c) (a.put oi.dst v) w → Q (.panic c) a w) {K : Act → World → Prop} {a : Act} {w : World} (h : wpOp P ops Q j K (a.put oi.dst v) w) :
    wpOp P ops Q j (fun a' w' => Same ops oi a a' ∧ K (a'.put oi.dst v) w') a w := by
  obtain ⟨hd1, hd2, hd3⟩ := Oper.apart_spec hap
  have back : ∀ (b : Act) u, (b.put oj.dst u).put oi.dst v = (b.put oi.dst v).put oj.dst u := fun b u => (Act.put_comm b v u hd2).symm
  have fin : ∀ u w', K ((a.put oi.dst v).put oj.dst u) w' → Same ops oi a (a.put oj.dst u) ∧ K ((a.put oj.dst u).put oi.dst v) w' := fun u w' hk => ⟨Same.put oi hsi a oj.dst u hd3, by rw [back]; exact hk⟩
  unfold wpOp at h ⊢
  rw [hj] at h ⊢
  dsimp only at h ⊢
  rw [wanted_put oj a oi.dst v hd1] at h
  by_cases hw : Region.wanted oj (yielded ops a.tmps) = true
  · rw [if_pos hw] at h ⊢
    rcases h with h | ⟨h1, h2⟩
    · left
      unfold Oper.wp at h ⊢
      rw [execOp_put oj hsj a oi.dst v hd1] at h
      generalize (execOp a.eval oj).run P w = r at h ⊢
      cases r with
      | halt x w' => cases x <;> simp only [Oper.upon] at h ⊢ <;> exact hQ _ _ _ h
      | ok n w' =>
        cases n <;> simp only [Oper.upon] at h ⊢
        case value u => exact fin u w' h
        case skip => exact fin _ w' h
        case defer d =>
          refine ⟨Same.trans (b := { a with defers := d :: a.defers }) ⟨rfl, rfl, rfl⟩ (Same.put oi hsi _ oj.dst _ hd3), ?_⟩
          rw [back, ← Act.put_defers]
          exact h
        case enter f args =>
          refine Calls.mono h fun e w'' he => ?_
          cases e with
          | returned u => exact fin u w'' he
          | panicked c => exact hQ _ _ _ he
          | outgrown => exact he
        case row row args => exact Rows.mono h fun u w'' he => fin u w'' he
    · right
      unfold Oper.asks at h1 ⊢
      rw [execOp_put oj hsj a oi.dst v hd1] at h1
      exact ⟨h1, h2⟩
  · rw [if_neg hw] at h ⊢
    exact fin _ w h
/-- Whatever order is picked; S lasts behind all but the late ones, D. -/
def wpAnyN (P : Program) (md : Region.Mode) (ops : Array Oper) (Q : Exit → Act → World → Prop) (D : List Nat) (S : World → Prop) : Nat → Array Bool → Act → World → Prop
  | 0, listed, a, w => Region.ready md ops listed = [] ∧ Q .normal a w
  | fuel + 1, listed, a, w => (Region.ready md ops listed = [] → Q .normal a w) ∧
    ∀ i ∈ Region.ready md ops listed, wpOp P ops Q i (fun a' w' => (i ∉ D → S w → S w') ∧ wpAnyN P md ops Q D S fuel (listed.setIfInBounds i true) a' w') a w
theorem wpAny_of_N : ∀ (fuel : Nat) (listed : Array Bool) (a : Act) (w : World), wpAnyN P md ops Q D S fuel listed a w → wpAny P md ops Q fuel listed a w
  | 0, _, _, _, h => h
  | fuel + 1, _, _, _, h => ⟨h.1, fun i hi => wpOp_mono (fun a' w' k => wpAny_of_N fuel _ a' w' k.2) (h.2 i hi)⟩
/-- All of E wait, one for another, for i. -/
def Waits (md : Region.Mode) (ops : Array Oper) (listed : Array Bool) (i : Nat) (E : List Nat) : Prop :=
  ∀ j ∈ E, listed.getD j true = false ∧ ∃ oj, ops[j]? = some oj ∧ ∃ e ∈ oj.after, Region.binds md e = true ∧ (e.on ∈ E ∨ e.on = i)
def waitsB (md : Region.Mode) (ops : Array Oper) (listed : Array Bool) (i : Nat) (E D : List Nat) : Bool :=
  D.all (fun j => E.contains j) && E.all fun j => !listed.getD j true && match ops[j]? with
    | none => false
    | some oj => oj.after.any fun e => Region.binds md e && (E.contains e.on || e.on == i)
theorem waits_of {listed : Array Bool} {i : Nat} {E : List Nat} (h : waitsB md ops listed i E D = true) : (∀ j ∈ D, j ∈ E) ∧ Waits md ops listed i E := by
  unfold waitsB at h
  simp only [Bool.and_eq_true, List.all_eq_true] at h
  refine ⟨fun j hj => by simpa using h.1 j hj, fun j hj => ?_⟩
  obtain ⟨h1, h2⟩ := h.2 j hj
  refine ⟨by simpa using h1, ?_⟩
  cases ho : ops[j]? with
  | none => rw [ho] at h2; cases h2
  | some oj =>
    rw [ho] at h2
    obtain ⟨e, he, hb⟩ := Array.any_eq_true'.1 h2
    simp only [Bool.and_eq_true, Bool.or_eq_true, beq_iff_eq] at hb
    exact ⟨oj, rfl, e, he, hb.1, hb.2.imp (fun h => by simpa using h) id⟩
theorem getD_false_of {listed : Array Bool} {k : Nat} (h : listed.getD k true = false) : listed.getD k false = false := by
  rcases Nat.lt_or_ge k listed.size with h' | h'
  · simp [h'] at h ⊢; exact h
  · simp [Array.getElem?_eq_none h'] at h
theorem wpAnyN_first {i : Nat} {oi : Oper} {v : Value} {a0 : Act} (hi : ops[i]? = some oi) (hsel : ∀ (j : Nat) (o : Oper) cs b, ops[j]? = some o → o.op ≠ .select cs b)
    (hQ : ∀ c a w, Q (.panic c) (a.put oi.dst v) w → Q (.panic c) a w) (hfr : ∀ w, T w → wpList P ops (FreeOne (fun w' => w' = w) (a0.put oi.dst v)) [oi] a0 w) (E : List Nat)
    (hcase : (∀ w, T w) ∨ ((∀ w, S w → T w) ∧ ∀ j ∈ D, j ∈ E)) :
    ∀ (fuel : Nat) (listed : Array Bool) (a : Act) (w : World), Same ops oi a0 a →
      (∀ j oj, ops[j]? = some oj → j ≠ i → listed.getD j true = false → (∀ e ∈ oj.after, Region.binds md e = true → e.on ≠ i) → oi.apart ops oj = true) →
      i ∈ Region.ready md ops listed → ((∀ w, T w) ∨ (S w ∧ Waits md ops listed i E)) →
      wpAnyN P md ops Q D S fuel (listed.setIfInBounds i true) (a.put oi.dst v) w → wpAnyN P md ops Q D S (fuel + 1) listed a w := by
  have now : ∀ {a : Act} {w : World} {K : Act → World → Prop}, Same ops oi a0 a → T w → K (a.put oi.dst v) w → wpOp P ops Q i K a w := fun hs hT hk =>
    free_op (I := fun w' => w' = _) hi (hfr _ hT) hs.1 hs.2.1 hs.2.2 (fun w' hw' => by rw [hw']; exact hk)
  have tn : ∀ {listed : Array Bool} {w : World}, ((∀ w, T w) ∨ (S w ∧ Waits md ops listed i E)) → T w := fun {listed w} h => by
    rcases h with h | h
    · exact h w
    · rcases hcase with k | k
      · exact k w
      · exact k.1 w h.1
  intro fuel
  induction fuel with
  | zero =>
    intro listed a w hs _ hr hst H
    refine ⟨fun h => (by rw [h] at hr; cases hr), fun j hj => ?_⟩
    by_cases hji : j = i
    · subst hji; exact now hs (tn hst) ⟨fun _ h => h, H⟩
    · have := ready_mono hj hji
      rw [H.1] at this
      cases this
  | succ fuel ih =>
    intro listed a w hs hfree hr hst H
    refine ⟨fun h => (by rw [h] at hr; cases hr), fun j hj => ?_⟩
    by_cases hji : j = i
    · subst hji; exact now hs (tn hst) ⟨fun _ h => h, H⟩
    · have h1 := H.2 j (ready_mono hj hji)
      obtain ⟨hjun, oj, hoj, hall⟩ := mem_ready.1 hj
      have hiun := (mem_ready.1 hr).1
      have hnot : ∀ e ∈ oj.after, Region.binds md e = true → e.on ≠ i := fun e he hb heq => by
        have k1 := hall e he hb
        rw [heq, getD_false_of hiun] at k1
        cases k1
      have h2 := wpOp_swap hoj (hfree j oj hoj hji hjun hnot) (fun cs b => hsel i oi cs b hi) (fun cs b => hsel j oj cs b hoj) hQ h1
      have hfree' : ∀ k ok, ops[k]? = some ok → k ≠ i → (listed.setIfInBounds j true).getD k true = false → (∀ e ∈ ok.after, Region.binds md e = true → e.on ≠ i) → oi.apart ops ok = true := fun k ok hk hki hun hno => by
        refine hfree k ok hk hki ?_ hno
        by_cases hjk : j = k
        · subst hjk; exact hjun
        · rw [getD_set_ne true hjk] at hun; exact hun
      refine wpOp_mono (fun a' w' h3 => ⟨h3.2.1, ih (listed.setIfInBounds j true) a' w' (hs.trans h3.1) hfree' (ready_mono hr (Ne.symm hji)) ?_ ?_⟩) h2
      · rcases hst with h | ⟨hSw, hwt⟩
        · exact .inl h
        · rcases hcase with h | ⟨_, hD⟩
          · exact .inl h
          · have hjE : j ∉ E := fun hm => by
              obtain ⟨_, oj', hoj', e, he, hb, hon⟩ := hwt j hm
              rw [hoj] at hoj'
              cases hoj'
              have k1 := hall e he hb
              rcases hon with hon | hon
              · rw [getD_false_of (hwt e.on hon).1] at k1; cases k1
              · rw [hon, getD_false_of hiun] at k1; cases k1
            refine .inr ⟨h3.2.1 (fun hm => hjE (hD j hm)) hSw, fun k hk => ⟨?_, (hwt k hk).2⟩⟩
            rw [getD_set_ne true (fun e => hjE (by rw [e]; exact hk))]
            exact (hwt k hk).1
      · rw [Array.setIfInBounds_comm _ _ hji]
        exact h3.2.2
theorem free_val {oi : Oper} {a a1 : Act} {w : World} (hfr : wpList P ops (FreeOne (fun w' => w' = w) a1) [oi] a w) (hd : a1.defers = a.defers) : ∃ v, a1 = a.put oi.dst v := by
  rcases free_put hfr with h1 | ⟨d, h1⟩
  · exact h1
  · exfalso
    rw [h1] at hd
    cases hdd : oi.dst <;> simp [hdd, Act.put] at hd
/-- The operation at a place, as it is written out. -/
inductive AtL (o : Oper) : Nat → List Oper → Prop
  | head {l : List Oper} : AtL o 0 (o :: l)
  | tail {i : Nat} {x : Oper} {l : List Oper} (h : AtL o i l) : AtL o (i + 1) (x :: l)
theorem AtL.get {o : Oper} {i : Nat} {l : List Oper} (h : AtL o i l) : l.toArray[i]? = some o := by
  rw [List.getElem?_toArray]
  induction h with
  | head => rfl
  | tail h ih => rw [List.getElem?_cons_succ]; exact ih
/-- What only computes. -/
theorem takeP (i : Nat) {l : List Oper} {oi : Oper} {a1 : Act} {fuel : Nat} {listed : Array Bool} {a : Act} {w : World} (hi : AtL oi i l) (hs : Region.noSelect l.toArray = true) (hf : Region.free md l.toArray listed i = true)
    (hr : (Region.ready md l.toArray listed).contains i = true) (hQ : ∀ v c a w, Q (.panic c) (a.put oi.dst v) w → Q (.panic c) a w) (hfr : ∀ w, wpList P l.toArray (FreeOne (fun w' => w' = w) a1) [oi] a w) (hd : a1.defers = a.defers)
    (h : wpAnyN P md l.toArray Q D S fuel (listed.setIfInBounds i true) a1 w) : wpAnyN P md l.toArray Q D S (fuel + 1) listed a w := by
  obtain ⟨v, rfl⟩ := free_val (hfr w) hd
  exact wpAnyN_first (T := fun _ => True) hi.get (Region.noSelect_spec hs) (hQ v) (fun w _ => hfr w) [] (.inl fun _ => trivial) fuel listed a w (Same.refl oi a) (Region.free_spec hi.get hf) (by simpa using hr) (.inl fun _ => trivial) h
/-- What reads: under S, which no operation ahead of it ends. -/
theorem takeS (i : Nat) {l : List Oper} {oi : Oper} {a1 : Act} {fuel : Nat} {listed : Array Bool} {a : Act} {w : World} (hi : AtL oi i l) (hs : Region.noSelect l.toArray = true) (hf : Region.free md l.toArray listed i = true)
    (hr : (Region.ready md l.toArray listed).contains i = true) (hQ : ∀ v c a w, Q (.panic c) (a.put oi.dst v) w → Q (.panic c) a w) (E : List Nat) (hE : waitsB md l.toArray listed i E D = true) (hSw : S w)
    (hfr : ∀ w, S w → wpList P l.toArray (FreeOne (fun w' => w' = w) a1) [oi] a w) (hd : a1.defers = a.defers)
    (h : wpAnyN P md l.toArray Q D S fuel (listed.setIfInBounds i true) a1 w) : wpAnyN P md l.toArray Q D S (fuel + 1) listed a w := by
  obtain ⟨v, rfl⟩ := free_val (hfr w hSw) hd
  exact wpAnyN_first (T := S) hi.get (Region.noSelect_spec hs) (hQ v) hfr E (.inr ⟨fun _ h => h, (waits_of hE).1⟩) fuel listed a w (Same.refl oi a) (Region.free_spec hi.get hf) (by simpa using hr) (.inr ⟨hSw, (waits_of hE).2⟩) h
/-- Whichever of those that may comes up. -/
inductive Each (P : Program) (l : List Oper) (Q : Exit → Act → World → Prop) (K : Nat → Act → World → Prop) (a : Act) (w : World) : List Nat → Prop
  | nil : Each P l Q K a w []
  | cons {i : Nat} {o : Oper} {rs : List Nat} (hi : AtL o i l) (hw : Region.wanted o (yielded l.toArray a.tmps) = true) (h : o.wp P a w (K i) Q) (t : Each P l Q K a w rs) : Each P l Q K a w (i :: rs)
theorem Each.all {l : List Oper} {K : Nat → Act → World → Prop} {a : Act} {w : World} : ∀ {rs : List Nat}, Each P l Q K a w rs → ∀ i ∈ rs, wpOp P l.toArray Q i (K i) a w := by
  intro rs h
  induction h with
  | nil => intro i hi; cases hi
  | cons hi hw h t ih =>
    intro j hj
    rcases List.mem_cons.1 hj with rfl | hj
    · unfold wpOp
      rw [hi.get]
      dsimp only
      rw [if_pos hw]
      exact .inl h
    · exact ih j hj
theorem branch (rs : List Nat) {l : List Oper} {fuel : Nat} {listed : Array Bool} {a : Act} {w : World} (hr : Region.ready md l.toArray listed = rs) (hne : rs ≠ [])
    (h : Each P l Q (fun i a' w' => (i ∉ D → S w → S w') ∧ wpAnyN P md l.toArray Q D S fuel (listed.setIfInBounds i true) a' w') a w rs) : wpAnyN P md l.toArray Q D S (fuel + 1) listed a w :=
  ⟨fun h0 => absurd (hr.symm.trans h0) hne, by rw [hr]; exact h.all⟩
theorem branch1 (i : Nat) {l : List Oper} {o : Oper} {fuel : Nat} {listed : Array Bool} {a : Act} {w : World} (hi : AtL o i l) (hw : Region.wanted o (yielded l.toArray a.tmps) = true) (hr : Region.ready md l.toArray listed = [i])
    (h : o.wp P a w (fun a' w' => (i ∉ D → S w → S w') ∧ wpAnyN P md l.toArray Q D S fuel (listed.setIfInBounds i true) a' w') Q) : wpAnyN P md l.toArray Q D S (fuel + 1) listed a w :=
  branch [i] hr (by simp) (.cons hi hw h .nil)
theorem drawn_put {fuel : Nat} {listed : Array Bool} {a a1 : Act} {w : World} (h : a = a1) (k : wpAnyN P md ops Q D S fuel listed a1 w) : wpAnyN P md ops Q D S fuel listed a w := h ▸ k
theorem drawn_done {listed : Array Bool} {a : Act} {w : World} (hr : Region.ready md ops listed = []) (h : Q .normal a w) : ∀ fuel, wpAnyN P md ops Q D S fuel listed a w
  | 0 => ⟨hr, h⟩
  | _ + 1 => ⟨fun _ => h, by rw [hr]; simp⟩
theorem drawn {id : Nat} {a : Act} {w : World} (D : List Nat) (S : World → Prop) (hm : P.follows .mixedOrders = true)
    (h : wpAnyN P .any ops Q D S ops.size (Array.replicate ops.size false) a w.drew) : (Code.region id ops true).wp P Q a w :=
  wp_region_any hm (wpAny_of_N _ _ _ _ h)
theorem drawn_lit {id : Nat} {l : List Oper} {a : Act} {w : World} (D : List Nat) (S : World → Prop) (hm : P.follows .mixedOrders = true)
    (h : wpAnyN P .any l.toArray Q D S l.length (List.replicate l.length false).toArray a w.drew) : (Code.region id l.toArray true).wp P Q a w :=
  drawn D S hm (by simpa using h)
end
end Go.Proofs.YthmkhpijdpbfbaaDoor
