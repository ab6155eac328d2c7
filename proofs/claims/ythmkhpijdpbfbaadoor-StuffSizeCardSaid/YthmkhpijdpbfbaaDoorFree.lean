/- A region that draws its order, walked once, in the order of the text: each operation gives one and the same value in every world that meets an invariant, keeps the invariant, and looks only at slots that its own edges fix. -/
import Derived.Test.YthmkhpijdpbfbaaDoorArr
import Derived.Orders
namespace Go
section
variable {P : Program} {Q : Exit → Act → World → Prop}
/-- What one operation comes to: the act a1, in a world that meets I. -/
def FreeOne (I : World → Prop) (a1 : Act) : Exit → Act → World → Prop
  | .normal, a', w' => a' = a1 ∧ I w'
  | _, _, _ => False
/-- The region, in the order of the text. -/
inductive FreeWalk (P : Program) (ops : Array Oper) (Q : Exit → Act → World → Prop) (I : World → Prop) : List Oper → Act → Prop
  | nil {a : Act} (h : ∀ w, I w → Q .normal a w) : FreeWalk P ops Q I [] a
  | cons {o : Oper} {rest : List Oper} {a a1 : Act} (h : ∀ w, I w → wpList P ops (FreeOne I a1) [o] a w) (hd : a1.defers = a.defers) (h2 : FreeWalk P ops Q I rest a1) : FreeWalk P ops Q I (o :: rest) a

theorem freeOne_out (I : World → Prop) (a1 : Act) : ¬ LetsOut (FreeOne I a1) := fun ⟨_, _, h⟩ => h
theorem put_inj {a : Act} {dst : Option Tmp} {v u : Value} (h : a.put dst v = a.put dst u) (b : Act) (hb : b.tmps.size = a.tmps.size) : b.put dst v = b.put dst u := by
  cases dst with
  | none => rfl
  | some d =>
    by_cases hd : d < a.tmps.size
    · have h1 : (a.put (some d) v).tmps[d]? = (a.put (some d) u).tmps[d]? := by rw [h]
      simp [Act.put, hd] at h1
      rw [h1]
    · simp only [Act.put]
      have hd2 : b.tmps.size ≤ d := by rw [hb]; exact Nat.le_of_not_lt hd
      rw [Array.setIfInBounds_eq_of_size_le hd2, Array.setIfInBounds_eq_of_size_le hd2]
theorem put_defers_ne {a : Act} {dst : Option Tmp} {v u : Value} {d : Deferred} (h : ({ a with defers := d :: a.defers } : Act).put dst v = a.put dst u) : False := by
  have h1 : (({ a with defers := d :: a.defers } : Act).put dst v).defers = (a.put dst u).defers := by rw [h]
  cases dst <;> simp [Act.put] at h1
/-- One operation at an act that looks the same to it. -/
theorem free_op {ops : Array Oper} {o : Oper} {I : World → Prop} {a b : Act} {v : Value} {w : World} {i : Nat} (ho : ops[i]? = some o)
    (h : wpList P ops (FreeOne I (a.put o.dst v)) [o] a w) (he : execOp b.eval o = execOp a.eval o)
    (hw : Region.wanted o (yielded ops b.tmps) = Region.wanted o (yielded ops a.tmps)) (hb : b.tmps.size = a.tmps.size)
    {K : Act → World → Prop} (hK : ∀ w', I w' → K (b.put o.dst v) w') : wpOp P ops Q i K b w := by
  unfold wpOp
  rw [ho]
  dsimp only
  rw [hw]
  simp only [wpList] at h
  split
  · rename_i hwt
    rw [if_pos hwt] at h
    rcases h with h | ⟨_, h⟩
    · left
      unfold Oper.wp at h ⊢
      rw [he]
      generalize (execOp a.eval o).run P w = r at h ⊢
      cases r with
      | ok n w' =>
        cases n <;> simp only [Oper.upon] at h ⊢
        case value u => rw [put_inj h.1 b hb]; exact hK _ h.2
        case skip => rw [put_inj h.1 b hb]; exact hK _ h.2
        case defer d => exact (put_defers_ne h.1).elim
        case enter f args =>
          refine Calls.mono h fun e w'' q => ?_
          cases e with
          | returned u => dsimp only at q ⊢; rw [put_inj q.1 b hb]; exact hK _ q.2
          | panicked chain => exact q.elim
          | outgrown => exact (freeOne_out _ _ q).elim
        case row row args => exact Rows.mono h fun u w'' q => by rw [put_inj q.1 b hb]; exact hK _ q.2
      | halt x w' => cases x <;> simp only [Oper.upon] at h ⊢ <;> exact h.elim
    · exact (freeOne_out _ _ h).elim
  · rename_i hwt
    rw [if_neg hwt] at h
    rw [put_inj h.1 b hb]
    exact hK _ h.2
/-- What an operation comes to is a put. -/
theorem free_put {ops : Array Oper} {o : Oper} {I : World → Prop} {a a1 : Act} {w : World} (h : wpList P ops (FreeOne I a1) [o] a w) : (∃ v, a1 = a.put o.dst v) ∨ (∃ d, a1 = ({ a with defers := d :: a.defers } : Act).put o.dst undef) := by
  simp only [wpList] at h
  split at h
  · rcases h with h | ⟨_, h⟩
    · unfold Oper.wp at h
      generalize (execOp a.eval o).run P w = r at h
      cases r with
      | ok n w' =>
        cases n <;> simp only [Oper.upon] at h
        case value u => exact .inl ⟨u, h.1.symm⟩
        case skip => exact .inl ⟨_, h.1.symm⟩
        case defer d => exact .inr ⟨d, h.1.symm⟩
        case enter f args =>
          obtain ⟨e, w'', fr, q, _⟩ := h []
          cases e with
          | returned u => exact .inl ⟨u, q.1.symm⟩
          | panicked chain => exact q.elim
          | outgrown => exact (freeOne_out _ _ q).elim
        case row row args =>
          obtain ⟨u, w'', q, _⟩ := h default []
          exact .inl ⟨u, q.1.symm⟩
      | halt x w' => cases x <;> simp only [Oper.upon] at h <;> exact h.elim
    · exact (freeOne_out _ _ h).elim
  · exact .inl ⟨_, h.1.symm⟩
end
/-- The closed look at a region: each slot has one writer; each edge leads back; whoever reads a slot that the region writes stands on one side of the writer by an edge. -/
def freeCheck (ops : List Oper) : Bool :=
  (List.range ops.length).all fun i => match ops[i]? with
    | none => true
    | some o =>
      (match o.op with | .select _ _ | .defer _ => false | _ => true) &&
      o.after.toList.all (fun e => decide (e.on < i)) &&
      (List.range ops.length).all fun j => match ops[j]? with
        | none => true
        | some p => match p.dst with
          | none => true
          | some d =>
            (i == j || o.dst != some d) &&
            (!(o.looksAt ops.toArray).contains d || i == j ||
              (decide (j < i) && o.after.toList.any fun e => e.on == j && Region.binds .any e) ||
              (decide (i < j) && p.after.toList.any fun e => e.on == i && Region.binds .any e))

def dstAt (ops : List Oper) (j : Nat) : Option Tmp := (ops[j]?).bind (·.dst)
def ownerOf (ops : List Oper) (s : Nat) : Option Nat := (List.range ops.length).find? fun j => dstAt ops j == some s
/-- The frame when the operations L have been done. -/
def frameAt (ops : List Oper) (vs : Nat → Value) (a : Act) (L : Nat → Bool) : Act :=
  { tmps := Array.ofFn fun s : Fin a.tmps.size => match ownerOf ops s.val with
      | some j => if L j then vs j else a.tmps[s]
      | none => a.tmps[s]
    defers := a.defers }
theorem frameAt_size (ops : List Oper) (vs : Nat → Value) (a : Act) (L : Nat → Bool) : (frameAt ops vs a L).tmps.size = a.tmps.size := by simp [frameAt]
theorem frameAt_get (ops : List Oper) (vs : Nat → Value) (a : Act) (L : Nat → Bool) (s : Nat) (hs : s < a.tmps.size) :
    (frameAt ops vs a L).tmps[s]? = some (match ownerOf ops s with | some j => if L j then vs j else a.tmps[s] | none => a.tmps[s]) := by
  simp [frameAt, hs]
theorem owner_spec {ops : List Oper} {s j : Nat} (h : ownerOf ops s = some j) : j < ops.length ∧ dstAt ops j = some s := by
  have h1 := List.find?_some h
  have h2 := List.mem_of_find?_eq_some h
  exact ⟨by simpa using h2, by simpa using h1⟩
theorem check_at {ops : List Oper} (hc : freeCheck ops = true) {i : Nat} {o : Oper} (hi : ops[i]? = some o) :
    (∀ cs b, o.op ≠ .select cs b) ∧ (∀ e ∈ o.after.toList, e.on < i) ∧
    ∀ j p d, ops[j]? = some p → p.dst = some d → (i = j ∨ o.dst ≠ some d) ∧ (d ∈ o.looksAt ops.toArray → i = j ∨ (j < i ∧ ∃ e ∈ o.after.toList, e.on = j ∧ Region.binds .any e = true) ∨ (i < j ∧ ∃ e ∈ p.after.toList, e.on = i ∧ Region.binds .any e = true)) := by
  have hlt : i < ops.length := (List.getElem?_eq_some_iff.1 hi).1
  unfold freeCheck at hc
  rw [List.all_eq_true] at hc
  have h := hc i (by simpa using hlt)
  rw [hi] at h
  simp only [Bool.and_eq_true, List.all_eq_true, decide_eq_true_eq] at h
  obtain ⟨⟨h1, h2⟩, h3⟩ := h
  refine ⟨fun cs b e => (by rw [e] at h1; cases h1), h2, fun j p d hj hd => ?_⟩
  have hltj : j < ops.length := (List.getElem?_eq_some_iff.1 hj).1
  have h4 := h3 j (by simpa using hltj)
  rw [hj] at h4
  dsimp only at h4
  rw [hd] at h4
  simp only [Bool.and_eq_true, Bool.or_eq_true, beq_iff_eq, bne_iff_ne, Bool.not_eq_true', List.any_eq_true, decide_eq_true_eq] at h4
  obtain ⟨h5, h6⟩ := h4
  refine ⟨h5, fun hm => ?_⟩
  rcases h6 with ((h6 | h6) | h6) | h6
  · have := List.contains_iff_mem.2 hm
    rw [h6] at this; cases this
  · exact .inl h6
  · exact .inr (.inl h6)
  · exact .inr (.inr h6)
theorem owner_of {ops : List Oper} (hc : freeCheck ops = true) {i d : Nat} {o : Oper} (hi : ops[i]? = some o) (hd : o.dst = some d) : ownerOf ops d = some i := by
  cases hf : ownerOf ops d with
  | none =>
    have hlt : i < ops.length := (List.getElem?_eq_some_iff.1 hi).1
    have := List.find?_eq_none.1 hf i (by simpa using hlt)
    simp [dstAt, hi, hd] at this
  | some j =>
    obtain ⟨hj, hdj⟩ := owner_spec hf
    have hj' : ops[j]? = some ops[j] := List.getElem?_eq_getElem hj
    have hdj' : ops[j].dst = some d := by simpa [dstAt, hj'] using hdj
    have := ((check_at hc hi).2.2 j _ d hj' hdj').1
    rcases this with rfl | h
    · rfl
    · exact absurd hd h
theorem frameAt_put {ops : List Oper} (hc : freeCheck ops = true) (vs : Nat → Value) (a : Act) (L : Nat → Bool) {i : Nat} {o : Oper} (hi : ops[i]? = some o) :
    (frameAt ops vs a L).put o.dst (vs i) = frameAt ops vs a (fun j => L j || j == i) := by
  cases hd : o.dst with
  | none =>
    simp only [Act.put]
    unfold frameAt
    congr 1
    apply Array.ext (by simp)
    intro s h1 h2
    simp only [Array.getElem_ofFn]
    cases ho : ownerOf ops s with
    | none => rfl
    | some j =>
      obtain ⟨hj, hdj⟩ := owner_spec ho
      have hne : (j == i) = false := by
        rw [beq_eq_false_iff_ne]
        rintro rfl
        simp [dstAt, hi, hd] at hdj
      simp [hne]
  | some d =>
    simp only [Act.put]
    unfold frameAt
    congr 1
    apply Array.ext_getElem?
    intro s
    rw [Array.getElem?_setIfInBounds]
    by_cases hs : s < a.tmps.size
    · by_cases hds : d = s
      · subst hds
        simp [hs, owner_of hc hi hd]
      · cases ho : ownerOf ops s with
        | none => simp [hs, hds, ho]
        | some j =>
          have hne : (j == i) = false := by
            rw [beq_eq_false_iff_ne]
            rintro rfl
            obtain ⟨hj, hdj⟩ := owner_spec ho
            simp [dstAt, hi, hd] at hdj
            exact hds hdj
          have hne' : ¬ j = i := by simpa using hne
          simp [hs, hds, ho, hne']
    · simp [hs]
      intro h; omega
theorem frameAt_start (ops : List Oper) (vs : Nat → Value) (a : Act) (L : Nat → Bool) (h : ∀ j, j < ops.length → L j = false) : frameAt ops vs a L = a := by
  unfold frameAt
  cases a with
  | mk tmps defers =>
    congr 1
    apply Array.ext (by simp)
    intro s h1 h2
    simp only [Array.getElem_ofFn]
    cases ho : ownerOf ops s with
    | none => rfl
    | some j =>
      have := h j (owner_spec ho).1
      simp [this]
theorem frameAt_congr (ops : List Oper) (vs : Nat → Value) (a : Act) (L M : Nat → Bool) (h : ∀ j, j < ops.length → L j = M j) : frameAt ops vs a L = frameAt ops vs a M := by
  unfold frameAt
  congr 1
  apply Array.ext (by simp)
  intro s h1 h2
  simp only [Array.getElem_ofFn]
  cases ho : ownerOf ops s with
  | none => rfl
  | some j => simp [h j (owner_spec ho).1]
def unlisted (L : Nat → Bool) : Nat → Nat
  | 0 => 0
  | n + 1 => unlisted L n + (if L n then 0 else 1)
theorem unlisted_set (L : Nat → Bool) (i : Nat) (hL : L i = false) : ∀ n, i < n → unlisted L n = unlisted (fun j => L j || j == i) n + 1 := by
  have same : ∀ n, n ≤ i → unlisted L n = unlisted (fun j => L j || j == i) n := by
    intro n
    induction n with
    | zero => intro _; rfl
    | succ n ih =>
      intro h
      have hne : (n == i) = false := by rw [beq_eq_false_iff_ne]; omega
      simp only [unlisted, ih (by omega), hne, Bool.or_false]
  intro n
  induction n with
  | zero => intro h; omega
  | succ n ih =>
    intro h
    by_cases hn : n = i
    · subst hn
      simp only [unlisted, same n (Nat.le_refl _), hL, Bool.false_or, beq_self_eq_true, if_true, Bool.false_eq_true, if_false]
    · have hne : (n == i) = false := by rw [beq_eq_false_iff_ne]; exact hn
      simp only [unlisted, ih (by omega), hne, Bool.or_false]
      omega
theorem unlisted_zero (L : Nat → Bool) : ∀ n, unlisted L n = 0 → ∀ j, j < n → L j = true := by
  intro n
  induction n with
  | zero => intro _ j h; omega
  | succ n ih =>
    intro h j hj
    simp only [unlisted] at h
    by_cases hjn : j = n
    · subst hjn
      cases hL : L j with
      | true => rfl
      | false => simp [hL] at h
    · exact ih (by omega) j (by omega)
section
variable {P : Program} {Q : Exit → Act → World → Prop}
theorem free_vals {all : List Oper} (I : World → Prop) {w0 : World} (hI : I w0) : ∀ {rest : List Oper} {a : Act}, FreeWalk P all.toArray Q I rest a →
    ∃ vs : List Value, vs.length = rest.length ∧ ∃ st : Nat → Act, st 0 = a ∧
      (∀ i o, rest[i]? = some o → st (i + 1) = (st i).put o.dst (vs.getD i undef) ∧ ∀ w, I w → wpList P all.toArray (FreeOne I ((st i).put o.dst (vs.getD i undef))) [o] (st i) w) ∧
      ∀ w, I w → Q .normal (st rest.length) w := by
  intro rest a h
  induction h with
  | nil h => exact ⟨[], rfl, fun _ => _, rfl, fun i o ho => by simp at ho, h⟩
  | @cons o rest a a1 h hd _ ih =>
    obtain ⟨vs, hl, st, h0, hst, hfin⟩ := ih
    obtain ⟨v, hv⟩ : ∃ v, a1 = a.put o.dst v := by
      rcases free_put (h w0 hI) with h1 | ⟨d, h1⟩
      · exact h1
      · exfalso
        rw [h1] at hd
        cases hdd : o.dst <;> simp [hdd, Act.put] at hd
    refine ⟨v :: vs, by simp [hl], fun i => match i with | 0 => a | i + 1 => st i, rfl, fun i o' ho' => ?_, hfin⟩
    cases i with
    | zero =>
      simp only [List.getElem?_cons_zero, Option.some.injEq] at ho'
      subst ho'
      dsimp only
      rw [h0]
      exact ⟨hv, by rw [List.getD_cons_zero, ← hv]; exact h⟩
    | succ i =>
      simp only [List.getElem?_cons_succ] at ho'
      dsimp only
      rw [List.getD_cons_succ]
      exact hst i o' ho'
theorem wpAny_free {ops : List Oper} (hc : freeCheck ops = true) (I : World → Prop) (a : Act) (vs : Nat → Value)
    (hop : ∀ i o, ops[i]? = some o → ∀ w, I w → wpList P ops.toArray (FreeOne I ((frameAt ops vs a (fun j => decide (j < i))).put o.dst (vs i))) [o] (frameAt ops vs a (fun j => decide (j < i))) w)
    (hfin : ∀ w, I w → Q .normal (frameAt ops vs a (fun _ => true)) w) : ∀ (fuel : Nat) (listed : Array Bool) (w : World), listed.size = ops.length → unlisted (fun j => listed.getD j false) ops.length ≤ fuel →
      (∀ j p, ops[j]? = some p → listed.getD j false = true → ∀ e ∈ p.after.toList, Region.binds .any e = true → listed.getD e.on false = true) → I w →
      wpAny P .any ops.toArray Q fuel listed (frameAt ops vs a (fun j => listed.getD j false)) w := by
  have rdy : ∀ (listed : Array Bool), listed.size = ops.length → ∀ i, i ∈ Region.ready .any ops.toArray listed ↔ i < ops.length ∧ listed.getD i false = false ∧ ∀ o, ops[i]? = some o → ∀ e ∈ o.after.toList, Region.binds .any e = true → listed.getD e.on false = true := by
    intro listed hsz i
    simp only [Region.ready, List.mem_filter, List.mem_range, List.size_toArray, Bool.and_eq_true, Bool.not_eq_true', List.getElem?_toArray]
    constructor
    · rintro ⟨h1, h2, h3⟩
      refine ⟨h1, ?_, fun o ho e he hb => ?_⟩
      · simp only [Array.getD_eq_getD_getElem?, Array.getElem?_eq_getElem (show i < listed.size by omega), Option.getD_some] at h2 ⊢
        exact h2
      · rw [ho] at h3
        simp only [Option.map_some, Option.getD_some, Array.all_eq_true_iff_forall_mem] at h3
        have := h3 e (by simpa using he)
        rw [hb] at this
        simpa using this
    · rintro ⟨h1, h2, h3⟩
      refine ⟨h1, ?_, ?_⟩
      · simp only [Array.getD_eq_getD_getElem?, Array.getElem?_eq_getElem (show i < listed.size by omega), Option.getD_some] at h2 ⊢
        exact h2
      · rw [List.getElem?_eq_getElem h1]
        simp only [Option.map_some, Option.getD_some, Array.all_eq_true_iff_forall_mem]
        intro e he
        cases hb : Region.binds .any e with
        | false => rfl
        | true => simpa using h3 _ (List.getElem?_eq_getElem h1) e (by simpa using he) hb
  have done : ∀ (listed : Array Bool), listed.size = ops.length → Region.ready .any ops.toArray listed = [] → ∀ i, i < ops.length → listed.getD i false = true := by
    intro listed hsz hr i
    induction i using Nat.strongRecOn with
    | _ i ih =>
      intro hi
      cases hL : listed.getD i false with
      | true => rfl
      | false =>
        exfalso
        have hm := (rdy listed hsz i).2 ⟨hi, hL, fun o ho e he _ => by
          have := (check_at hc ho).2.1 e he
          exact ih e.on this (by omega)⟩
        rw [hr] at hm
        cases hm
  have fin : ∀ (listed : Array Bool) (w : World), listed.size = ops.length → Region.ready .any ops.toArray listed = [] → I w → Q .normal (frameAt ops vs a (fun j => listed.getD j false)) w := by
    intro listed w hsz hr hI
    rw [frameAt_congr ops vs a _ (fun _ => true) (fun j hj => done listed hsz hr j hj)]
    exact hfin w hI
  intro fuel
  induction fuel with
  | zero =>
    intro listed w hsz hu _ hI
    have hall := unlisted_zero _ _ (Nat.le_zero.1 hu)
    have hr : Region.ready .any ops.toArray listed = [] := by
      cases hrr : Region.ready .any ops.toArray listed with
      | nil => rfl
      | cons x xs =>
        have hx := (rdy listed hsz x).1 (by rw [hrr]; simp)
        have : listed.getD x false = true := hall x hx.1
        rw [hx.2.1] at this
        cases this
    exact ⟨hr, fin listed w hsz hr hI⟩
  | succ fuel ih =>
    intro listed w hsz hu hdown hI
    refine ⟨fun hr => fin listed w hsz hr hI, fun i hi => ?_⟩
    obtain ⟨hlt, hL, hedges⟩ := (rdy listed hsz i).1 hi
    have ho : ops[i]? = some ops[i] := List.getElem?_eq_getElem hlt
    have hchk := check_at hc ho
    have hsame : ∀ x ∈ ops[i].looksAt ops.toArray, (frameAt ops vs a (fun j => listed.getD j false)).tmps[x]? = (frameAt ops vs a (fun j => decide (j < i))).tmps[x]? := by
      intro x hx
      by_cases hxs : x < a.tmps.size
      · rw [frameAt_get _ _ _ _ _ hxs, frameAt_get _ _ _ _ _ hxs]
        cases how : ownerOf ops x with
        | none => rfl
        | some j =>
          obtain ⟨hj, hdj⟩ := owner_spec how
          have hj' : ops[j]? = some ops[j] := List.getElem?_eq_getElem hj
          have hdj' : ops[j].dst = some x := by simpa [dstAt, hj'] using hdj
          dsimp only
          have hcase := (hchk.2.2 j _ x hj' hdj').2 hx
          have heq : listed.getD j false = decide (j < i) := by
            rcases hcase with rfl | ⟨hlt2, e, he, hon, hb⟩ | ⟨hlt2, e, he, hon, hb⟩
            · rw [hL]; simp
            · have := hedges _ ho e he hb
              rw [hon] at this
              rw [this]; simp [hlt2]
            · cases hLj : listed.getD j false with
              | false => simp; omega
              | true =>
                have := hdown j _ hj' hLj e he hb
                rw [hon, hL] at this
                cases this
          rw [heq]
      · have e0 : ∀ L, (frameAt ops vs a L).tmps[x]? = none := fun L => Array.getElem?_eq_none (by rw [frameAt_size]; exact Nat.le_of_not_lt hxs)
        rw [e0, e0]
    have hexec : execOp (frameAt ops vs a (fun j => listed.getD j false)).eval ops[i] = execOp (frameAt ops vs a (fun j => decide (j < i))).eval ops[i] := by
      refine execOp_congr _ hchk.1 fun x hx => ?_
      cases x with
      | tmp t =>
        have hm : t ∈ ops[i].looksAt ops.toArray := List.mem_append_left _ (List.mem_filterMap.2 ⟨.tmp t, by simpa using hx, rfl⟩)
        have := hsame t hm
        show Array.getD _ t undef = Array.getD _ t undef
        rw [Array.getD_eq_getD_getElem?, Array.getD_eq_getD_getElem?, this]
      | _ => rfl
    have hw : Region.wanted ops[i] (yielded ops.toArray (frameAt ops vs a (fun j => listed.getD j false)).tmps) = Region.wanted ops[i] (yielded ops.toArray (frameAt ops vs a (fun j => decide (j < i))).tmps) := by
      unfold Region.wanted
      cases hg : ops[i].guard with
      | none => rfl
      | some gw =>
        obtain ⟨g, want⟩ := gw
        have hy : yielded ops.toArray (frameAt ops vs a (fun j => listed.getD j false)).tmps g = yielded ops.toArray (frameAt ops vs a (fun j => decide (j < i))).tmps g := by
          unfold yielded
          cases ht : (ops.toArray[g]?).bind (·.dst) with
          | none => rfl
          | some t =>
            have hm : t ∈ ops[i].looksAt ops.toArray := List.mem_append_right _ (by rw [hg]; dsimp only; rw [ht]; simp)
            simp only [Option.bind_some, hsame t hm]
        simp only [hy]
    refine free_op (by simp) (hop i _ ho w hI) hexec hw (by rw [frameAt_size, frameAt_size]) fun w' hI' => ?_
    rw [frameAt_put hc vs a _ ho]
    have hset : ∀ j, j < ops.length → (listed.setIfInBounds i true).getD j false = (listed.getD j false || j == i) := by
      intro j hj
      simp only [Array.getD_eq_getD_getElem?, Array.getElem?_setIfInBounds]
      by_cases hji : i = j
      · subst hji; simp [hsz, hlt]
      · have : (j == i) = false := by rw [beq_eq_false_iff_ne]; exact fun h => hji h.symm
        simp [hji, this]
    rw [← frameAt_congr ops vs a (fun j => (listed.setIfInBounds i true).getD j false) _ hset]
    refine ih _ w' (by simp [hsz]) ?_ ?_ hI'
    · have h1 := unlisted_set (fun j => listed.getD j false) i hL ops.length hlt
      have h2 : ∀ n, n ≤ ops.length → unlisted (fun j => (listed.setIfInBounds i true).getD j false) n = unlisted (fun j => listed.getD j false || j == i) n := by
        intro n
        induction n with
        | zero => intro _; rfl
        | succ n ihn => intro h; simp only [unlisted, ihn (by omega), hset n (by omega)]
      rw [h2 _ (Nat.le_refl _)]
      omega
    · intro j p hj hLj e he hb
      have hjl : j < ops.length := (List.getElem?_eq_some_iff.1 hj).1
      have hel : e.on < ops.length := by have := (check_at hc hj).2.1 e he; omega
      rw [hset j hjl] at hLj
      rw [hset _ hel]
      by_cases hji : j = i
      · subst hji
        rw [hedges p hj e he hb]; rfl
      · have : (j == i) = false := by rw [beq_eq_false_iff_ne]; exact hji
        rw [this, Bool.or_false] at hLj
        rw [hdown j p hj hLj e he hb]; rfl
/-- THE REGION, IN WHATEVER ORDER, WALKED ONCE IN THE TEXT's. -/
theorem wp_region_free {id : Nat} {ops : List Oper} {a : Act} {w : World} (hm : P.follows .mixedOrders = true) (hc : freeCheck ops = true) (I : World → Prop) (hI : I w.drew)
    (h : FreeWalk P ops.toArray Q I ops a) : (Code.region id ops.toArray true).wp P Q a w := by
  refine wp_region_any hm ?_
  obtain ⟨vs, hl, st, h0, hst, hfin⟩ := free_vals I hI h
  have hfr : ∀ i, i ≤ ops.length → st i = frameAt ops (fun j => vs.getD j undef) a (fun j => decide (j < i)) := by
    intro i
    induction i with
    | zero => intro _; rw [h0, frameAt_start _ _ _ _ (fun j _ => by simp)]
    | succ i ih =>
      intro hi
      have ho : ops[i]? = some ops[i] := List.getElem?_eq_getElem (by omega)
      rw [(hst i _ ho).1, ih (by omega)]
      have hp := frameAt_put hc (fun j => vs.getD j undef) a (fun j => decide (j < i)) ho
      rw [hp]
      apply frameAt_congr
      intro j _
      by_cases hji : j = i
      · subst hji; simp
      · have h1 : (j == i) = false := by rw [beq_eq_false_iff_ne]; exact hji
        rw [h1, Bool.or_false]
        congr 1
        simp only [eq_iff_iff]
        omega
  have key := wpAny_free (P := P) (Q := Q) hc I a (fun j => vs.getD j undef)
    (fun i o ho w hw => by
      have hi : i < ops.length := (List.getElem?_eq_some_iff.1 ho).1
      rw [← hfr i (by omega)]
      exact (hst i o ho).2 w hw)
    (fun w hw => by
      have := hfin w hw
      rw [hfr _ (Nat.le_refl _)] at this
      rw [← frameAt_congr ops (fun j => vs.getD j undef) a (fun j => decide (j < ops.length)) (fun _ => true) (fun j hj => by simp [hj])]
      exact this)
    ops.length (Array.replicate ops.length false) w.drew (by simp) ?_ ?_ hI
  · have hz : frameAt ops (fun j => vs.getD j undef) a (fun j => (Array.replicate ops.length false).getD j false) = a := frameAt_start _ _ _ _ (fun j hj => by simp [Array.getD_eq_getD_getElem?, hj])
    rw [hz] at key
    simpa using key
  · have : ∀ (L : Nat → Bool) n, unlisted L n ≤ n := by
      intro L n
      induction n with
      | zero => exact Nat.le_refl _
      | succ n ih => simp only [unlisted]; split <;> omega
    exact this _ _
  · intro j p _ hLj
    exfalso
    simp only [Array.getD_eq_getD_getElem?, Array.getElem?_replicate] at hLj
    split at hLj <;> simp at hLj
end
section
variable {P : Program} {ops : Array Oper} {rest : List Oper} {o : Oper} {a : Act} {w : World} {Q : Exit → Act → World → Prop}
theorem wpList_wanted (hw : Region.wanted o (yielded ops a.tmps) = true) (h : ∀ K : Act → World → Prop, (∀ a w, wpList P ops Q rest a w → K a w) → o.wp P a w K Q) : wpList P ops Q (o :: rest) a w :=
  wpList_step fun K hK => by rw [if_pos hw]; exact h K hK
/-- The load of a whole row, guarded or not. -/
theorem wpList_load_any (hw : Region.wanted o (yielded ops a.tmps) = true) (ty : TypeId) (x : Operand) (ho : o.op = .load ty x)
    (b off : Nat) (hx : a.eval x = .pointer (some ⟨b, off, none⟩)) (cs : List Value) (d : TypeDesc) (hc : w.rangeAt b off cs)
    (hu : P.underlying ty = some d) (hd : d.isRow = true) (hi : (P.info? ty).map (·.size) = some cs.length)
    (h : wpList P ops Q rest (a.put o.dst (.agg cs.toArray)) w) : wpList P ops Q (o :: rest) a w :=
  wpList_wanted hw fun _ hK => wp_load_mid ty x ho b off hx cs d hc hu hd hi (hK _ _ h)
end
open Go.Proofs.YthmkhpijdpbfbaaDoor in
/-- The load of a row of ints, guarded or not. -/
theorem wpList_load_iv {P : Program} {ops : Array Oper} {rest : List Oper} {o : Oper} {a : Act} {w : World} {Q : Exit → Act → World → Prop} (hw : Region.wanted o (yielded ops a.tmps) = true) (ty : TypeId) (x : Operand) (ho : o.op = .load ty x)
    (g : Nat) (hx : a.eval x = .pointer (some ⟨g, 0, none⟩)) (l : List Int) (d : TypeDesc) (hc : Row w g l)
    (hu : P.underlying ty = some d) (hd : d.isRow = true) (hi : (P.info? ty).map (·.size) = some l.length)
    (h : wpList P ops Q rest (a.put o.dst (.agg (iv l))) w) : wpList P ops Q (o :: rest) a w :=
  wpList_load_any hw ty x ho g 0 hx (l.map (Value.int .i64)) d hc.range hu hd (by rw [hi, List.length_map]) h
open Go.Proofs.YthmkhpijdpbfbaaDoor in
/-- A whole row into the block that was made last. -/
theorem wpList_store_new {P : Program} {ops : Array Oper} {rest : List Oper} {o : Oper} {a : Act} {Q : Exit → Act → World → Prop} (hgd : o.guard = none) (ty : TypeId) (x y : Operand) (ho : o.op = .store ty x y)
    (w0 : World) (c : Array Value) (t : TypeId) (hx : a.eval x = .pointer (some ⟨w0.heap.size, 0, none⟩)) (m : List Int) (hy : a.eval y = .agg (iv m))
    (hi : (P.info? ty).map (·.size) = some m.length) (hc : c.size = m.length)
    (h : wpList P ops Q rest (a.put o.dst undef) (w0.alloc (.cells (iv m) t))) : wpList P ops Q (o :: rest) a (w0.alloc (.cells c t)) :=
  wpList_store_row hgd ty x y ho w0.heap.size (iv m) hx hy t c (heap_alloc_new w0 _) (by rw [hi, iv_size]) (by rw [hc, iv_size]) (iv_one m) (by rw [World.setRow_alloc_new]; exact h)
open Go.Proofs.YthmkhpijdpbfbaaDoor in
/-- A new variable for a row of ints: the world behind it is told by its facts alone. -/
theorem wpList_alloc_iv {P : Program} {ops : Array Oper} {rest : List Oper} {o : Oper} {a : Act} {w : World} {Q : Exit → Act → World → Prop} (hgd : o.guard = none) (ty : TypeId) (ho : o.op = .alloc ty)
    (l : List Int) (hz : ∀ w, (zeroValue ty).run P w = .ok (.agg (iv l)) w)
    (h : ∀ w2, Row w2 w.heap.size l → Ext w w2 → w2.heap.size = w.heap.size + 1 → wpList P ops Q rest (a.put o.dst (.pointer (some ⟨w.heap.size, 0, none⟩))) w2) : wpList P ops Q (o :: rest) a w :=
  wpList_plain hgd fun _ hK => by
    have hh := hK _ _ (h (w.alloc (.cells (iv l) ty)) (Row.new w l ty) ((Ext.refl w).alloc _) (by simp))
    unfold Oper.wp execOp
    simp only [ho]
    simp [go_sem, hz, newVar, newRow, Value.cells]
    exact hh
open Go.Proofs.YthmkhpijdpbfbaaDoor in
/-- A parameter, or a captured variable, that is a row of ints. -/
theorem wpList_box_iv {P : Program} {ops : Array Oper} {rest : List Oper} {o : Oper} {a : Act} {w : World} {Q : Exit → Act → World → Prop} (hgd : o.guard = none) (ty : TypeId) (x : Operand) (ho : o.op = .box ty x)
    (l : List Int) (hx : a.eval x = .agg (iv l))
    (h : ∀ w2, Row w2 w.heap.size l → Ext w w2 → w2.heap.size = w.heap.size + 1 → wpList P ops Q rest (a.put o.dst (.pointer (some ⟨w.heap.size, 0, none⟩))) w2) : wpList P ops Q (o :: rest) a w :=
  wpList_plain hgd fun _ hK => by
    have hh := hK _ _ (h (w.alloc (.cells (iv l) ty)) (Row.new w l ty) ((Ext.refl w).alloc _) (by simp))
    unfold Oper.wp execOp
    simp only [ho, hx]
    simp [go_sem, newVar, newRow, Value.cells]
    exact hh
open Go.Proofs.YthmkhpijdpbfbaaDoor in
/-- A whole row of ints into a block that holds one. -/
theorem wpList_store_iv {P : Program} {ops : Array Oper} {rest : List Oper} {o : Oper} {a : Act} {w : World} {Q : Exit → Act → World → Prop} (hgd : o.guard = none) (ty : TypeId) (x y : Operand) (ho : o.op = .store ty x y)
    (g : Nat) (hx : a.eval x = .pointer (some ⟨g, 0, none⟩)) (m l : List Int) (hy : a.eval y = .agg (iv m)) (hr : Row w g l)
    (hi : (P.info? ty).map (·.size) = some m.length) (hc : l.length = m.length)
    (h : wpList P ops Q rest (a.put o.dst undef) (w.setRow g (iv m))) : wpList P ops Q (o :: rest) a w := by
  obtain ⟨t, hr⟩ := hr
  exact wpList_store_row hgd ty x y ho g (iv m) hx hy t (iv l) hr (by rw [hi, iv_size]) (by rw [iv_size, iv_size, hc]) (iv_one m) h
open Go.Proofs.YthmkhpijdpbfbaaDoor in
/-- The same, the world behind it told by its facts alone. -/
theorem wpList_store_iv2 {P : Program} {ops : Array Oper} {rest : List Oper} {o : Oper} {a : Act} {w : World} {Q : Exit → Act → World → Prop} (hgd : o.guard = none) (ty : TypeId) (x y : Operand) (ho : o.op = .store ty x y)
    (g : Nat) (hx : a.eval x = .pointer (some ⟨g, 0, none⟩)) (m l : List Int) (hy : a.eval y = .agg (iv m)) (hr : Row w g l)
    (hi : (P.info? ty).map (·.size) = some m.length) (hc : l.length = m.length)
    (h : ∀ w', Row w' g m → (∀ g' l', g' ≠ g → Row w g' l' → Row w' g' l') → (∀ W, W.heap.size ≤ g → Ext W w → Ext W w') → w'.heap.size = w.heap.size → wpList P ops Q rest (a.put o.dst undef) w') : wpList P ops Q (o :: rest) a w :=
  wpList_store_iv hgd ty x y ho g hx m l hy hr hi hc (h _ (hr.setRow m) (fun _ _ hne hr' => hr'.setRowOther hne _) (fun _ hg hE => hE.setRow hg _) (by simp))
end Go
