/- A result that is a struct in parts. -/
import Derived.Test.YtembekkanggciaaParts
namespace Go.Proofs.Ytembekkanggciaa
set_option maxRecDepth 100000
open Go.RowKit
theorem OneRes.prt {P : Program} {W w : World} {rs rs' : List Res} {tmps : Array Value} {p g n : Nat} {ty : TypeId} {ps : List Part} (hS : St W w rs) (hp : tmps.getD p undef = .pointer (some ⟨g, 0, none⟩)) (h1 : RowN P ty n) (pl : Pull (Go.Proofs.Ytembekkanggciaa.prt g ps) rs rs') (hn : Pre ps n ps) : OneRes P tmps w (.cell p ty) (.agg (pcells ps).toArray) :=
  OneRes.blk hS hp h1 pl hn.take.2
end Go.Proofs.Ytembekkanggciaa
