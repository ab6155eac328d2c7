/- Things of the call's own, as one thing. -/
import Derived.Test.YthmkhpijdpbfbaaDoorRet
namespace Go.Proofs.YthmkhpijdpbfbaaDoor
open Go.RowKit
set_option linter.unusedVariables false
/-- Things of the call's own, as one thing. -/
def star (rs : List Res) : Res := bag fun _ : Unit => rs
theorem St.star0 {W w : World} {rs : List Res} (h : St W w rs) : St W w (Go.Proofs.YthmkhpijdpbfbaaDoor.star [] :: rs) := St.close () h
theorem St.starPut {W w : World} {r : Res} {ss rs rs' : List Res} (h : St W w (Go.Proofs.YthmkhpijdpbfbaaDoor.star ss :: rs)) (p : Pull r rs rs') : St W w (Go.Proofs.YthmkhpijdpbfbaaDoor.star (ss ++ [r]) :: rs') := by
  have h1 : St W w (r :: Go.Proofs.YthmkhpijdpbfbaaDoor.star ss :: rs') := h.pull (.tail p)
  obtain ⟨_, h2⟩ := (h1.pull (.tail .head)).open
  refine St.close () ?_
  have h3 : St W w (ss ++ (r :: rs')) := h2
  simpa using h3
theorem Pull.mem {r : Res} : ∀ {ss : List Res} (rs : List Res), r ∈ ss → ∃ ss', Pull r (ss ++ rs) ss'
  | [], _, h => by cases h
  | x :: ss, rs, h => by
    by_cases hx : r = x
    · subst hx; exact ⟨_, .head⟩
    · obtain ⟨s, hs⟩ := Pull.mem (ss := ss) rs ((List.mem_cons.1 h).resolve_left hx); exact ⟨x :: s, .tail hs⟩
theorem St.starGet {W w : World} {ss rs rs' : List Res} (h : St W w rs) (p : Pull (Go.Proofs.YthmkhpijdpbfbaaDoor.star ss) rs rs') {r : Res} (hr : r ∈ ss) : ∃ rs'', St W w (r :: rs'') := by
  obtain ⟨_, h2⟩ := (h.pull p).open
  obtain ⟨s, hs⟩ := Pull.mem rs' hr
  exact ⟨s, h2.pull hs⟩
theorem own_nil {W w : World} {rs rs' : List Res} {e : TypeId} {s n c : Nat} {ad : Option Addr} {cs : List Value} (hS : St W w rs) (hp : Pull (own e s ad n c cs) rs rs') (h : ad = none) : c = 0 := by
  rcases (hS.own hp).2 with ⟨h1, _⟩ | ⟨g, cap, cur, h1, _⟩
  · cases h1; rfl
  · subst h; cases h1
end Go.Proofs.YthmkhpijdpbfbaaDoor
