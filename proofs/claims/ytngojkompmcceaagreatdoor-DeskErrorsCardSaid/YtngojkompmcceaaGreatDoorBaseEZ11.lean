/- What the laws DeskErrors need, part 11. -/
import Derived.Test.YtngojkompmcceaaGreatDoorBaseEZ1
import Derived.Test.YtngojkompmcceaaGreatDoorBaseEZ2
import Derived.Test.YtngojkompmcceaaGreatDoorBaseEZ9
import Derived.ProofKit
import Derived.OpenShut
import Derived.ChangeOld
import Derived.Deep.Slices
import Derived.Test.YtngojkompmcceaaGreatDoorRows
namespace Go.Proofs.YtngojkompmcceaaGreatDoor
attribute [local irreducible] Region.wanted
open Go.RowKit
set_option linter.unusedVariables false
set_option maxRecDepth 100000
set_option maxHeartbeats 8000000
theorem V.neqE{P:Program}{ty t u:TypeId}{a:Act}{x y:Operand}{s r:ByteArray}(hx:a.eval x= .string s)(hy:a.eval y= .string r)(h:s=r):Bk P (.binOp .neq t x y u) ty a (.bool false):=by have:=V.neqS (P:=P) (ty:=ty) (t:=t) (u:=u) hx hy;rwa [show decide (s≠r)=false by rw [decide_eq_false_iff_not];exact fun k=>k h] at this
theorem GR(w0:World)(a b:Option Addr)(n c d:Nat)(L:List ByteArray)(ha:Sl w0 1 (.slice a n c) n (L.map Value.string))(hb:Sl w0 1 (.slice b n d) n (L.map Value.string))(hn:n≤1000000):
 Calls Tryz.prog 7 #[.slice a n c, .slice b n d] w0 fun e w=>e= .returned (.bool true)∧AP w0 w:=by
 have hlx:L.length=n:=by have:=ha.1;simpa using this
 have HX:=AD hlx
 clear hlx
 have hS:=St.start w0
 go_enter Tryz.func7,Tryz.ntmps7
 repeat' (first
  | refine X0 ?_|refine M0 ?_|refine PV ?_|refine AF ?_;go_step|fail)
 all_goals (try exact Ak)
 repeat' (first
  | refine AF ?_;go_step|fail)
 go_loopg [14] n (fun gk kv w=>∃k:Nat,gk+k=n∧kv= .int .i64 k∧St w0 w [])
 case atStart=>exact ⟨0,rfl,rfl,hS.sub Ae⟩
 case round=>
  clear hS
  obtain ⟨k,hk,rfl,hS⟩:=hrel
  by_cases hlt:k<n
  ·obtain ⟨s,hs⟩:∃s,L[k]? =some s:=⟨_,List.getElem?_eq_getElem (by rw [HX.out];exact hlt)⟩
   obtain ⟨ba,oa,rfl,hca⟩:=Be ha (by omega)
   obtain ⟨bb,ob,rfl,hcb⟩:=Be hb (by omega)
   replace hca:=hca k (.string s) (by rw [List.getElem?_map,hs];rfl)
   replace hcb:=hcb k (.string s) (by rw [List.getElem?_map,hs];rfl)
   clear hs
   repeat' (first
    | (refine AM 24 ?_);refine AY AA (V.neqE rfl rfl rfl) ?_;go_step|refine X0 ?_|refine X3 ?_|refine J3 17 ?_|refine J3 22 ?_|refine X5 ?_|refine Nu ?_|refine AF ?_;go_step|fail)
   all_goals (try exact Ak)
   go_roundg (gk-1)
   case measure=>omega
   case rel=>exact ⟨k+1,by omega,by go_num,hS.sub Ae⟩
  obtain rfl:k=n:=by omega
  repeat' (first
   | refine X7 ?_|refine X3 ?_|refine AF ?_;go_step|fail)
  all_goals (try exact Ak)
  repeat' (first
   | refine AF ?_;go_step|fail)
  go_ret
  exact ⟨rfl,hS.1⟩
end Go.Proofs.YtngojkompmcceaaGreatDoor
namespace Go.Proofs.YtngojkompmcceaaGreatDoor
attribute [local irreducible] Region.wanted
open Go.ChangeShapes Go.WideShapes Go.ChangeAt Go.RowKit
set_option linter.unusedVariables false
set_option maxRecDepth 100000
set_option maxHeartbeats 8000000
end Go.Proofs.YtngojkompmcceaaGreatDoor
namespace Go.Proofs.YtngojkompmcceaaGreatDoor
attribute [local irreducible] Region.wanted
open Go.ChangeShapes Go.WideShapes Go.ChangeAt Go.RowKit Go.Deep
set_option linter.unusedVariables false
set_option maxRecDepth 100000
set_option maxHeartbeats 8000000
end Go.Proofs.YtngojkompmcceaaGreatDoor
namespace Go.Proofs.YtngojkompmcceaaGreatDoor
attribute [local irreducible] Region.wanted
open Go.ChangeShapes Go.WideShapes Go.ChangeAt Go.RowKit
set_option linter.unusedVariables false
set_option maxRecDepth 100000
set_option maxHeartbeats 8000000
theorem LV{H:Type}(d:DataW H):1≤Rows.uptoBulk d:=by
 cases d with
 | lit l=>cases l<;>simp [Rows.uptoBulk]
 | nil=>simp [Rows.uptoBulk]
 | ptr d=>simp [Rows.uptoBulk]
 | slice elems spare=>simp [Rows.uptoBulk]
 | agg parts=>simp [Rows.uptoBulk]
 | iface t d=>simp [Rows.uptoBulk]
 | map entries=>simp [Rows.uptoBulk]
 | held h=>simp [Rows.uptoBulk]
theorem LU{H:Type}(l:List (DataW H)):l.length≤Rows.uptoBulkAll l:=by
 induction l with
 | nil=>simp [Rows.uptoBulkAll]
 | cons x r ih=>have:=LV x;simp only [Rows.uptoBulkAll,List.length_cons];omega
theorem JE{H:Type}{enc:TypeId×Value→H}{P:Program}{W:World}{t e:TypeId}{ad:Option Addr}{n c:Nat}{d:DataW H}{p:List MemPlace}(ht:P.underlying t=some (.slice e))
 (h:DataW.Trod enc P W 0 (fun _=>true) true t (.slice ad n c) d p):n≤Rows.uptoBulk d:=by
 obtain ⟨fuel,h⟩:=h
 have hvc:(Value.slice ad n c).cells.toList=[.slice ad n c]:=rfl
 rw [hvc] at h
 rcases Go.Deep.open_slice ht h with ⟨h0,_⟩|⟨a,len,cap,m,k,D,Pl,hcs,_,_,_,_,hx,_⟩
 ·have:n=0:=by have h1:=h0;simp at h1;exact h1.2.1
  omega
 have e1:n=len:=by have h1:=hcs;simp at h1;exact h1.2.1
 have e2:d= .slice ((List.range len).map D) ((List.range (m-len)).map fun j=>D (len+j)):=(Prod.mk.inj hx).1
 rw [e2]
 simp only [Rows.uptoBulk]
 have:=LU ((List.range len).map D)
 rw [List.length_map,List.length_range] at this
 omega
end Go.Proofs.YtngojkompmcceaaGreatDoor
namespace Go.Proofs.YtngojkompmcceaaGreatDoor
attribute [local irreducible] Region.wanted
open Go.ChangeShapes Go.WideShapes Go.ChangeAt Go.RowKit Go.Deep
set_option linter.unusedVariables false
set_option maxRecDepth 100000
set_option maxHeartbeats 8000000
theorem Kl{W:World}{a:Addr}{len cap:Nat}(hl:len≤cap)(hm:cap≤maxLen)(V:Nat→Value)(hV:∀i,i<len→W.cell? (a.add i)=some (V i)):Sl W 1 (.slice (some a) len cap) len ((List.range len).map V):=by
 refine ⟨by simp,some a,cap,rfl,hl,hm,?_⟩
 rcases Nat.eq_zero_or_pos len with h0|h0
 ·exact .inl h0
 refine .inr ?_
 have hc0:=hV 0 h0
 have hspot:a.spot=none:=by
  rw [show a.add 0=a from rfl] at hc0
  unfold World.cell? at hc0
  split at hc0
  ·split at hc0
   ·cases hc0
   rename_i hh;simpa using hh
  cases hc0
 refine ⟨a.block,a.off,by cases a;simp at hspot;simp [hspot],fun i hi=>?_⟩
 rw [Nat.mul_one] at hi
 have hci:=hV i hi
 have haddr:a.add i=⟨a.block,a.off+i,none⟩:=by
  unfold Addr.add
  split
  ·rename_i h0;subst h0;cases a;simp at hspot;simp [hspot]
  rfl
 rw [haddr] at hci
 rw [hci]
 simp [hi]
theorem NZ{H:Type}{enc:TypeId×Value→H}{W:World}{v:Value}{d:DataW H}{p:List MemPlace}{base:Nat}(ho:Value.okWide Tryz.prog W .any base 22 v)(h:DataW.Trod enc Tryz.prog W 0 (fun _=>true) true 22 v d p):
 ∃(n:Nat) (L:List ByteArray) (ad:Option Addr) (c:Nat),L.length=n∧v= .slice ad n c∧n≤c∧c≤9223372036854775807∧Sl W 1 (.slice ad n c) n (L.map Value.string)∧n≤Rows.uptoBulk d:=by
 have hT:=h
 obtain ⟨fuel,h⟩:=h
 have hvc:v.cells.toList=[v]:=by
  unfold Value.okWide at ho
  rw [Tryz.underlying22] at ho
  dsimp only at ho
  unfold Cell.okWide at ho
  rw [Tryz.underlying22] at ho
  dsimp only at ho
  unfold Cell.ok at ho
  rw [Tryz.underlying22] at ho
  cases v<;>first|rfl|exact absurd ho (by simp)
 rw [hvc] at h
 rcases open_slice1 Tryz.underlying22 AA h with ⟨h0,_⟩|⟨a,len,cap,m,n,V,D,Pl,hcs,_,hl,hm,hmm,_,hV⟩
 ·obtain rfl:v= .slice none 0 0:=by simpa using h0
  exact ⟨0,[],none,0,rfl,rfl,by omega,by omega,Sl.nil W 1,by omega⟩
 obtain rfl:v= .slice (some a) len cap:=by simpa using hcs
 have hmc:m=cap:=by simpa using hmm
 subst hmc
 have each:∀i,i<len→∃r:ByteArray,V i= .string r:=by
  intro i hi
  obtain ⟨h1,h2⟩:=hV i (by omega)
  obtain ⟨s,hs,_⟩:=DataW.trod_string Tryz.underlying9 h2
  exact ⟨s,by simpa using hs⟩
 obtain ⟨f,hf⟩:=choose_lt each
 refine ⟨len,(List.range len).map f,some a,m,by simp,rfl,hl,by unfold maxLen at hm;exact hm,?_,JE Tryz.underlying22 hT⟩
 rw [List.map_map]
 have e:(List.range len).map (Value.string ∘ f)=(List.range len).map V:=List.map_congr_left fun i hi=>(hf i (List.mem_range.1 hi)).symm
 rw [e]
 exact Kl hl hm V fun i hi=>(hV i (by omega)).1
end Go.Proofs.YtngojkompmcceaaGreatDoor
