/- best.Make, whatever comes. -/
import Derived.Test.YtembekkanggciaaBestOpt
namespace Go.Proofs.Ytembekkanggciaa
open Go.RowKit
set_option linter.unusedVariables false
theorem make_both (w0 : World) (c : List Int) (ad : Option Addr) (n cap : Nat) (hv : Sl w0 1 (.slice ad n cap) n (c.map (Value.int .i64))) (hn : n ≤ 9223372036854775807) :
    Calls Try.prog 13 #[.slice ad n cap] w0 fun e w => ∃ (C S : List Int) (ao : Option Addr) (m co : Nat), Len C 16 ∧ S.length = m ∧ m ≤ 256 ∧ tabE C S = 0 ∧ (bE c = 0 → Mk c n C S) ∧ e = .returned (.tuple #[tv C (.slice ao m co), .int .i64 (bE c)]) ∧ St w0 w [own 3 1 ao m co (S.map (Value.int .i64))] := by
  by_cases hb : bE c = 0
  · refine (make_good w0 c ad n cap hv hn hb).mono ?_
    rintro e w ⟨C, S, ao, co, hM, rfl, hS⟩
    exact ⟨C, S, ao, S.length, co, hM.len, rfl, (tabE_ok hM.ok).2.2.1, hM.ok, fun _ => hM, by rw [hb], hS⟩
  · refine (make_bad w0 c ad n cap hv hn hb).mono ?_
    rintro e w ⟨rfl, hE⟩
    exact ⟨_, [], none, 0, 0, zero_len, rfl, by omega, zero_tab, fun h => absurd h hb, rfl, (St.of_ext hE).nil _ _⟩
/-- Cost with the table that Make gave. -/
theorem cost_both {c C S : List Int} {n : Nat} (h : bE c = 0 → Mk c n C S) (hC : tabE C S = 0) (hcl : c.length = n) : costE C S c = bE c ∧ (bE c = 0 → costN C S c = costL c n (lw (wds C S))) := by
  by_cases hb : bE c = 0
  · have := cost_made (h hb) hcl hb
    exact ⟨by rw [this.1, hb], fun _ => this.2⟩
  · exact ⟨costE_bad hb hC, fun h => absurd h hb⟩
end Go.Proofs.Ytembekkanggciaa
