/- What a call hands back: results in slots and results in memory; a call of a function value. -/
import Derived.Test.YthmkhpijdpbfbaaDoorTy3
namespace Go.Proofs.YthmkhpijdpbfbaaDoor
open Go.RowKit
set_option linter.unusedVariables false
section
variable {P : Program} {W w : World} {rs rs' : List Res} {tmps : Array Value}
def resRun (tmps : Array Value) : ResultVar → Sem Value
  | .tmp t => pure (tmps.getD t undef)
  | .cell a t => do loadVar t (← asAddr (tmps.getD a undef))
/-- One result. -/
def OneRes (P : Program) (tmps : Array Value) (w : World) (r : ResultVar) (v : Value) : Prop := (resRun tmps r).run P w = .ok v w
theorem OneRes.tmp {t : Tmp} {v : Value} (h : tmps.getD t undef = v) : OneRes P tmps w (.tmp t) v := by
  show (pure (tmps.getD t undef) : Sem Value).run P w = .ok v w
  rw [h]; rfl
theorem OneRes.row {p g n : Nat} {ty : TypeId} {cs : List Value} (hp : tmps.getD p undef = .pointer (some ⟨g, 0, none⟩)) (h1 : RowN P ty n) (hn : cs.length = n) (hc : w.rangeAt g 0 cs) : OneRes P tmps w (.cell p ty) (.agg cs.toArray) := by
  show (do loadVar ty (← asAddr (tmps.getD p undef)) : Sem Value).run P w = .ok (.agg cs.toArray) w
  rw [hp]
  obtain ⟨hr, hs⟩ := h1
  cases hu : P.underlying ty with
  | none => rw [hu] at hr; cases hr
  | some d =>
    rw [hu, Option.map_some, Option.some.injEq] at hr
    exact run_loadVar_mid (P := P) w g 0 ty cs d hc hu hr (by rw [hs, hn])
theorem OneRes.arr {p g n : Nat} {ty : TypeId} {l : List Int} (hS : St W w rs) (hp : tmps.getD p undef = .pointer (some ⟨g, 0, none⟩)) (h1 : RowN P ty n) (pl : Pull (Go.Proofs.YthmkhpijdpbfbaaDoor.arr g n l) rs rs') : OneRes P tmps w (.cell p ty) (.agg (iv l)) := by
  obtain ⟨hr, hn⟩ := hS.arr pl
  exact OneRes.row (cs := l.map (Value.int .i64)) hp h1 (by simpa using hn) hr.range
theorem OneRes.blk {p g n : Nat} {ty : TypeId} {cs : List Value} (hS : St W w rs) (hp : tmps.getD p undef = .pointer (some ⟨g, 0, none⟩)) (h1 : RowN P ty n) (pl : Pull (Go.Proofs.YthmkhpijdpbfbaaDoor.blk g cs) rs rs') (hn : cs.length = n) : OneRes P tmps w (.cell p ty) (.agg cs.toArray) :=
  OneRes.row hp h1 hn (hS.blk pl).1.range
inductive AllRes (P : Program) (tmps : Array Value) (w : World) : List ResultVar → List Value → Prop
  | nil : AllRes P tmps w [] []
  | cons {r : ResultVar} {v : Value} {rs : List ResultVar} {vs : List Value} (h : OneRes P tmps w r v) (t : AllRes P tmps w rs vs) : AllRes P tmps w (r :: rs) (v :: vs)
theorem AllRes.run {rs : List ResultVar} {vs : List Value} (h : AllRes P tmps w rs vs) : (rs.mapM (resRun tmps)).run P w = .ok vs w := by
  induction h with
  | nil => rfl
  | @cons r v rs vs h t ih =>
    rw [List.mapM_cons]
    have h' := h
    unfold OneRes at h'
    simp only [Sem.run_bind]
    rw [h', Result.andThen_ok, ih, Result.andThen_ok]
    rfl
theorem results_ok {fn : Func} {xs : List ResultVar} {vs : List Value} (hr : fn.results = xs.toArray) (h : AllRes P tmps w xs vs) :
    (results fn tmps).run P w = .ok (if h : vs.toArray.size = 1 then vs.toArray[0] else .tuple vs.toArray) w := by
  have e : results fn tmps = (do
      let vs ← fn.results.mapM (resRun tmps)
      pure (if h : vs.size = 1 then vs[0] else .tuple vs)) := by
    unfold results
    congr 1
  have h2 := h.run
  rw [e, hr, List.mapM_toArray, Sem.run_bind, Sem.run_map, h2]
  rfl
theorem ret_all {fn : Func} {R : Ending → World → Prop} {a : Act} {xs : List ResultVar} {vs : List Value} (hr : fn.results = xs.toArray) (h : AllRes P a.tmps w xs vs) (hl : vs.length ≠ 1) (hd : a.defers = []) (hR : R (.returned (.tuple vs.toArray)) w) : bodyPost P fn R .ret a w := by
  refine bodyPost_ret (v := .tuple vs.toArray) ?_ hd hR
  rw [results_ok hr h, dif_neg (by simpa using hl)]
theorem ret_one {fn : Func} {R : Ending → World → Prop} {a : Act} {x : ResultVar} {v : Value} (hr : fn.results = #[x]) (h : OneRes P a.tmps w x v) (hd : a.defers = []) (hR : R (.returned v) w) : bodyPost P fn R .ret a w := by
  refine bodyPost_ret (v := v) ?_ hd hR
  rw [results_ok (xs := [x]) hr (AllRes.cons h AllRes.nil)]
  rfl
end
section
variable {P : Program} {w : World} {Q : Exit → Act → World → Prop} {K : Act → World → Prop} {o : Oper} {a : Act}
/-- A call of a function value, by its contract. -/
theorem wp_callV {f : FuncId} {x : Operand} {xs : List Operand} {ats : Array TypeId} {caps : Array Value} (ho : o.op = .call { callee := .value x, args := xs.toArray, argTypes := ats }) (hx : a.eval x = .func (.func f) #[] caps)
    (hcall : ∀ (args : Array Value) (w : World), (callFunc f args).run P w = .ok (.enter f args) w)
    {R : Ending → World → Prop} (hc : Calls P f ((xs.map a.eval).toArray ++ caps) w R) (h : ∀ e w', R e w' → ∃ v, e = .returned v ∧ K (a.put o.dst v) w') : o.wp P a w K Q := by
  have e1 : (execOp a.eval o).run P w = (callFunc f ((xs.map a.eval).toArray ++ caps)).run P w := by
    unfold execOp
    rw [ho]
    have e2 : (#[] ++ (xs.toArray).map a.eval ++ caps : Array Value) = (xs.map a.eval).toArray ++ caps := by simp
    rw [← e2]
    simp only [resolve, hx]
    rfl
  unfold Oper.wp
  rw [e1, hcall, Oper.upon_enter]
  refine hc.mono fun e w' hR => ?_
  obtain ⟨v, rfl, h2⟩ := h e w' hR
  exact h2
/-- A call of a method through an interface value, by its contract. -/
theorem wp_callI {m : String} {x : Operand} {xs : List Operand} {ats : Array TypeId} (ho : o.op = .call { callee := .invoke x m, args := xs.toArray, argTypes := ats }) (v : Value) (hx : a.eval x = v) (vs : List Value) (hvs : xs.map a.eval = vs) (f : FuncId) (args : Array Value)
    (hcall : ∀ (w : World), (invoke (.fn (.method m) #[]) (v :: vs).toArray).run P w = .ok (.enter f args) w)
    {R : Ending → World → Prop} (hc : Calls P f args w R) (h : ∀ e w', R e w' → ∃ v, e = .returned v ∧ K (a.put o.dst v) w') : o.wp P a w K Q := by
  have e1 : (execOp a.eval o).run P w = (invoke (.fn (.method m) #[]) (v :: vs).toArray).run P w := by
    unfold execOp
    rw [ho]
    have e2 : (#[a.eval x] ++ (xs.toArray).map a.eval : Array Value) = (v :: vs).toArray := by simp [hx, hvs]
    rw [← e2]
    simp only [resolve]
    rfl
  unfold Oper.wp
  rw [e1, hcall, Oper.upon_enter]
  refine hc.mono fun e w' hR => ?_
  obtain ⟨v, rfl, h2⟩ := h e w' hR
  exact h2
end
end Go.Proofs.YthmkhpijdpbfbaaDoor
