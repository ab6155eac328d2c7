/- What the laws DeskErrors need, part 1. -/
import Derived.WalkKit
import Derived.WalkLawsBesides
import Derived.WalkSpells
import Derived.BigQuiet
import Derived.Deep.QuietTactic
import Derived.Deep.LoopGhost
import Derived.Deep.DeepFit
import Derived.Laws.Tables
import Derived.Laws.Rows
import Derived.Deep.WholeRow
import Derived.Deep.MidRow
import Derived.Deep.RegionHeld3
import Derived.Orders
import Derived.Maps.AppendAt
import Derived.Deep.AppendLies
import Derived.Laws.OwnMore
import Derived.OwnWalk
import Derived.Great.BuildSlice
import Derived.Test.YtngojkompmcceaaGreatDoorProg
namespace Go
@[go_sem] theorem GH {P:Program} (w:World) (t:TypeId) (cs:Array Value) (k:IntKind) (i:Int) (h:P.underlying t=some (.array (P.arrayLen t) (P.elem t))):
 (Instr.index t (.agg cs) (.int k i)).run P w=
   if 0≤i∧i<P.arrayLen t then ((sizeOf (P.elem t)).run P w).andThen fun s w=>(part (P.elem t) cs (i.toNat*s)).run P w
   else (boundsPanic k i (P.arrayLen t) .index).run P w:=by
 simp [Instr.index,run_underlying h,asIntOf]
@[go_sem] theorem ME {P:Program} (w:World) (t:TypeId) (cs:Array Value) (off:Nat):
 (part t cs off).run P w=((isAgg t).run P w).andThen fun b w=>if b then ((sizeOf t).run P w).andThen fun s w=> .ok (.agg (cs.extract off (off+s))) w else
   match cs[off]? with|some v=> .ok v w|none=> .halt (.stuck "part: no such cell") w:=by
 simp only [part,Sem.run_bind]
 congr 1
 funext b w
 cases b
 ·simp only [Bool.false_eq_true,if_false]
  cases cs[off]? <;>rfl
 simp
@[go_sem high] theorem Mn {P:Program} (w:World) (ts:Array TypeId) (t:TypeId) (k k':IntKind) (x y:Int):(Builtin.max_ ts t #[.int k x, .int k' y]).run P w= .ok (.int k (max x y)) w:=by
 rw [run_max_int2]
 congr 2
 omega
@[go_sem high] theorem Mp {P:Program} (w:World) (ts:Array TypeId) (t:TypeId) (k k':IntKind) (x y:Int):(Builtin.min_ ts t #[.int k x, .int k' y]).run P w= .ok (.int k (min x y)) w:=by
 rw [run_min_int2]
 congr 2
 omega
@[go_sem high] theorem Mo {P:Program} (w:World) (ts:Array TypeId) (t:TypeId) (k k' k'':IntKind) (x y z:Int):(Builtin.max_ ts t #[.int k x, .int k' y, .int k'' z]).run P w= .ok (.int k (max (max x y) z)) w:=by
 rw [run_max_int3]
 congr 2
 omega
@[go_sem high] theorem Mq {P:Program} (w:World) (ts:Array TypeId) (t:TypeId) (k k' k'':IntKind) (x y z:Int):(Builtin.min_ ts t #[.int k x, .int k' y, .int k'' z]).run P w= .ok (.int k (min (min x y) z)) w:=by
 rw [run_min_int3]
 congr 2
 omega
theorem A5{fn:Func}{t u x y:Tmp}(h:fn.results=#[.tmp t, .tmp u, .tmp x, .tmp y])(tmps:Array Value)(P:Program)(w:World):
 (results fn tmps).run P w= .ok (.tuple #[tmps.getD t undef,tmps.getD u undef,tmps.getD x undef,tmps.getD y undef]) w:=by
 simp [results,h]
end Go
namespace Go.Proofs.YtngojkompmcceaaGreatDoor
open Go.RowKit
set_option linter.unusedVariables false
set_option maxRecDepth 100000
set_option maxHeartbeats 8000000
theorem AD{p:Prop}(h:p):Hid p:=h
def AP(W w':World):Prop:=Below W.heap.size W w'
theorem AP.refl(W:World):AP W W:=Below.refl _ _
theorem AP.trans{a b c:World}(h:AP a b)(k:AP b c):AP a c:=Below.trans h (Below.mono k h.size)
theorem AP.drew{W w:World}(h:AP W w):AP W w.drew:=Below.drew h
theorem AP.drewN{W w:World}{n:Nat}(h:AP W w):AP W (w.drewN n):=⟨h.os,h.tape,h.output,h.size,h.block⟩
theorem AP.alloc{W w:World}(h:AP W w)(o:Obj):AP W (w.alloc o):=Below.alloc h h.size o
theorem AP.setCell{W w:World}(h:AP W w){a:Addr}(ha:W.heap.size≤a.block)(v:Value):AP W (w.setCell a v):=Below.setCell h ha v
theorem AP.sz{W w:World}(h:AP W w):W.heap.size≤w.heap.size:=h.size
theorem AP.at{W w:World}(h:AP W w){k:Nat}(hk:k<W.heap.size):w.heap[k]? =W.heap[k]? :=h.block k hk
theorem AP.cell{W w:World}(h:AP W w){p:Addr}{v:Value}(hp:W.cell? p=some v):w.cell? p=some v:=
 (Below.cell h (World.block_lt_of_cell? W p hp)).trans hp
theorem MA{a b:Value}(h:a=b):Ending.returned a= .returned b:=by rw [h]
theorem FC{k:IntKind}{a b:Int}(h:a=b):Ending.returned (.int k a)= .returned (.int k b):=by rw [h]
theorem EP{a b:Bool}(h:a=b):Ending.returned (.bool a)= .returned (.bool b):=by rw [h]
def El(n d:Int):Int:=if n<0 then -((2* -n+d)/(2*d)) else (2*n+d)/(2*d)
theorem Nc(n d:Int)(hd:1≤d):El (-n) d= -El n d:=by
 unfold El
 by_cases h:n<0
 ·rw [if_neg (by omega),if_pos h];simp
 by_cases h0:n=0
 ·subst h0
  have:d/(2*d)=0:=Int.ediv_eq_zero_of_lt (by omega) (by omega)
  simp [this]
 rw [if_pos (by omega),if_neg h];simp
theorem JC(n d:Int)(B:Int)(h0: -B≤n)(h1:n≤B)(hd:1≤d): -B≤El n d∧El n d≤B:=by
 have key:∀m:Int,0≤m→m≤B→0≤(2*m+d)/(2*d)∧(2*m+d)/(2*d)≤B:=by
  intro m hm hB
  constructor
  ·exact Int.ediv_nonneg (by omega) (by omega)
  have h3:m*1≤m*d:=Int.mul_le_mul_of_nonneg_left hd hm
  have h4:(2*m+d)/(2*d)<m+1:=by
   apply Int.ediv_lt_of_lt_mul (by omega)
   have h5:(m+1)*(2*d)=2*(m*d)+2*d:=by rw [Int.add_mul,Int.one_mul,Int.mul_left_comm]
   omega
  omega
 unfold El
 split
 ·have:=key (-n) (by omega) (by omega);omega
 have:=key n (by omega) (by omega);omega
def D3(n:Int):Int:=min (max n 0) 255
theorem Bc(n:Int):0≤D3 n∧D3 n≤255:=by unfold D3;omega
theorem EI(a r A:Int)(R:Int)(ha: -A≤a∧a≤A)(hr:0≤r∧r≤R): -(A*R)≤a*r∧a*r≤A*R:=by
 obtain ⟨h1,h2⟩:=ha
 obtain ⟨h3,h4⟩:=hr
 have hA:0≤A:=by omega
 have h6:A*r≤A*R:=Int.mul_le_mul_of_nonneg_left h4 hA
 constructor
 ·have h5: -A*r≤a*r:=Int.mul_le_mul_of_nonneg_right h1 h3
  rw [Int.neg_mul] at h5
  omega
 have h5:a*r≤A*r:=Int.mul_le_mul_of_nonneg_right h2 h3
 omega
end Go.Proofs.YtngojkompmcceaaGreatDoor
namespace Go.Proofs.YtngojkompmcceaaGreatDoor
open Go.RowKit
set_option linter.unusedVariables false
set_option maxRecDepth 100000
set_option maxHeartbeats 8000000
def AG(l:List Int)(i:Nat):Int:=l.getD i 0
def iv(l:List Int):Array Value:=(l.map (Value.int .i64)).toArray
theorem Cc(l:List Int):(iv l).size=l.length:=by simp [iv]
theorem G7(l:List Int)(i:Nat)(h:i<l.length):(iv l)[i]? =some (.int .i64 (AG l i)):=by
 simp [iv,AG,List.getElem?_eq_getElem h]
theorem OT(l:List Int)(i:Nat)(x:Int):(iv l).setIfInBounds i (.int .i64 x)=iv (l.set i x):=by
 simp [iv,List.map_set]
theorem G8(l:List Int):(iv l).all (·.oneCell')=true:=by
 rw [Array.all_eq_true_iff_forall_mem]
 intro v hv
 simp only [iv,List.mem_toArray,List.mem_map] at hv
 obtain ⟨n,_,rfl⟩:=hv
 rfl
def B4(w:World)(g:Nat)(l:List Int):Prop:=∃t,w.heap[g]? =some (.cells (iv l) t (0,0))
theorem B4.cell{w:World}{g:Nat}{l:List Int}(h:B4 w g l)(i:Nat)(hi:i<l.length):w.cell? ⟨g,i,none⟩=some (.int .i64 (AG l i)):=by
 obtain ⟨t,h⟩:=h
 rw [cell_of_row w g i _ t _ h,G7 l i hi]
theorem B4.free{w:World}{g:Nat}{l:List Int}(h:B4 w g l)(i:Nat):w.frozen? ⟨g,i,none⟩=false:=by
 obtain ⟨t,h⟩:=h
 exact frozen_of_row w g i _ t h
theorem B4.set{w:World}{g:Nat}{l:List Int}(h:B4 w g l)(i:Nat)(x:Int):B4 (w.setCell ⟨g,i,none⟩ (.int .i64 x)) g (l.set i x):=by
 obtain ⟨t,h⟩:=h
 exact ⟨t,by rw [heap_setCell_same w g i _ t _ h,OT]⟩
theorem B4.setOther{w:World}{g:Nat}{l:List Int}(h:B4 w g l)(a:Addr)(v:Value)(hne:g≠a.block):B4 (w.setCell a v) g l:=by
 obtain ⟨t,h⟩:=h
 exact ⟨t,by rw [heap_setCell_other w a g v hne];exact h⟩
theorem B4.lt{w:World}{g:Nat}{l:List Int}(h:B4 w g l):g<w.heap.size:=by
 obtain ⟨t,h⟩:=h
 exact (Array.getElem?_eq_some_iff.1 h).1
theorem B4.ext{w w':World}{g:Nat}{l:List Int}(h:B4 w g l)(hE:AP w w'):B4 w' g l:=by
 have hl:=h.lt
 obtain ⟨t,h⟩:=h
 exact ⟨t,by rw [hE.at hl];exact h⟩
theorem B4.of_heap{w w':World}{g:Nat}{l:List Int}(h:B4 w g l)(hh:w'.heap[g]? =w.heap[g]?):B4 w' g l:=by
 obtain ⟨t,h⟩:=h
 exact ⟨t,by rw [hh];exact h⟩
theorem B4.alloc{w:World}{g:Nat}{l:List Int}(h:B4 w g l)(o:Obj):B4 (w.alloc o) g l:=h.ext ((AP.refl w).alloc o)
theorem B4.new(w:World)(l:List Int)(t:TypeId):B4 (w.alloc (.cells (iv l) t)) w.heap.size l:=⟨t,heap_alloc_new w _⟩
def Bm(L:List Int)(k:Nat):List Int:=L.take k++List.replicate (L.length-k) 0
theorem Gy(L:List Int):Bm L 0=List.replicate L.length 0:=by simp [Bm]
theorem ID(L:List Int)(k:Nat)(h:k≤L.length):(Bm L k).length=L.length:=by simp [Bm];omega
theorem IC(L:List Int):Bm L L.length=L:=by simp [Bm]
theorem IE(L:List Int)(k:Nat)(h:k<L.length):(Bm L k).set k (AG L k)=Bm L (k+1):=by
 unfold Bm
 rw [List.set_append_right _ _ (by simp;omega)]
 have e1:(List.take k L).length=k:=by simp;omega
 rw [e1,Nat.sub_self,List.take_add_one,List.getElem?_eq_getElem h]
 have e2:L.length-k=(L.length-(k+1))+1:=by omega
 rw [e2,List.replicate_succ,List.set_cons_zero,List.append_assoc]
 simp [AG,List.getD,List.getElem?_eq_getElem h]
def Sl(w:World)(s:Nat)(v:Value)(n:Nat)(cs:List Value):Prop:=
 cs.length=n*s∧∃a c,v= .slice a n c∧n≤c∧c≤maxLen∧(n=0∨∃b off,a=some ⟨b,off,none⟩∧∀k,k<n*s→w.cell? ⟨b,off+k,none⟩=cs[k]?)
theorem Sl.ext{w w':World}{s:Nat}{v:Value}{n:Nat}{cs:List Value}(h:Sl w s v n cs)(hE:AP w w'):Sl w' s v n cs:=by
 obtain ⟨hl,a,c,hv,h1,h2,h3⟩:=h
 refine ⟨hl,a,c,hv,h1,h2,?_⟩
 rcases h3 with h3|⟨b,off,ha,hc⟩
 ·exact .inl h3
 refine .inr ⟨b,off,ha,fun k hk=>?_⟩
 have h:=hc k hk
 rw [List.getElem?_eq_getElem (by omega)] at h⊢
 exact hE.cell h
theorem Sl.nil(w:World)(s:Nat):Sl w s (.slice none 0 0) 0 []:=⟨by simp,none,0,rfl,Nat.le_refl _,by unfold maxLen;omega, .inl rfl⟩
theorem Sl.ofOwn{w:World}{base:Nat}{e:TypeId}{s:Nat}{v:Value}{n:Nat}{xs:List Value}(h:w.ownsRow base e s v n xs):Sl w s v n xs:=by
 obtain ⟨hl,h⟩:=h
 refine ⟨hl,?_⟩
 rcases h with ⟨rfl,rfl⟩|⟨g,cap,cur,rfl,hb,hg,hn,hc,hsz,htake⟩
 ·exact ⟨none,0,rfl,Nat.le_refl _,by unfold maxLen;omega, .inl rfl⟩
 refine ⟨_,_,rfl,hn,hc, .inr ⟨g,0,rfl,fun k hk=>?_⟩⟩
 rw [Nat.zero_add,cell_of_row w g k cur e _ hg,←htake,List.getElem?_take,if_pos hk]
 simp
theorem Sl.of_row{w:World}{g:Nat}{l:List Int}(h:B4 w g l)(hn:l.length≤maxLen):Sl w 1 (.slice (some ⟨g,0,none⟩) l.length l.length) l.length (l.map (Value.int .i64)):=by
 refine ⟨by simp,_,_,rfl,Nat.le_refl _,hn, .inr ⟨g,0,rfl,fun k hk=>?_⟩⟩
 rw [Nat.zero_add,h.cell k (by omega),List.getElem?_map,List.getElem?_eq_getElem (by omega)]
 simp [AG,List.getElem?_eq_getElem (show k<l.length by omega)]
def Md(w:World)(v:Value)(xs:List Int):Prop:=Sl w 1 v xs.length (xs.map (Value.int .i64))
theorem Md.open{w:World}{v:Value}{xs:List Int}(h:Md w v xs):∃a c,v= .slice a xs.length c∧xs.length≤c∧c≤9223372036854775807∧
 (∀i,i<xs.length→∃b off,a=some ⟨b,off,none⟩∧∀k,k<xs.length→w.cell? ⟨b,off+k,none⟩=some (.int .i64 (AG xs k))):=by
 obtain ⟨_,a,c,hv,h1,h2,h3⟩:=h
 refine ⟨a,c,hv,h1,by unfold maxLen at h2;exact h2,fun i hi=>?_⟩
 rcases h3 with h3|⟨b,off,ha,hc⟩
 ·omega
 refine ⟨b,off,ha,fun k hk=>?_⟩
 rw [hc k (by omega),List.getElem?_map,List.getElem?_eq_getElem hk]
 simp [AG,List.getD,List.getElem?_eq_getElem hk]
theorem Md.of_row{w:World}{g:Nat}{l:List Int}{n:Nat}(h:B4 w g l)(hl:l.length=n)(hn:n≤maxLen):Md w (.slice (some ⟨g,0,none⟩) n n) l:=by
 subst hl;exact Sl.of_row h hn
theorem IU{w w':World}{b o:Nat}{cs:List Value}(h:w.rangeAt b o cs)(hE:AP w w'):w'.rangeAt b o cs:=fun j v hv=>hE.cell (h j v hv)
theorem B4.range{w:World}{g:Nat}{l:List Int}(h:B4 w g l):w.rangeAt g 0 (l.map (Value.int .i64)):=fun j v hv=>by
 obtain ⟨t,h⟩:=h
 rw [cell_of_row w g _ _ t _ h,Nat.zero_add]
 simpa [iv] using hv
theorem AP.setRow{W w:World}(h:AP W w){g:Nat}(hg:W.heap.size≤g)(cs:Array Value):AP W (w.setRow g cs):=by
 refine Below.trans h ⟨rfl,rfl,rfl,by simp,fun k hk=>setRow_other w g k cs (by omega)⟩
theorem B4.setRow{w:World}{g:Nat}{l:List Int}(h:B4 w g l)(m:List Int):B4 (w.setRow g (iv m)) g m:=by
 obtain ⟨t,h⟩:=h
 exact ⟨t,setRow_heap w g _ _ t _ h⟩
end Go.Proofs.YtngojkompmcceaaGreatDoor
/- A region that draws its order, walked once, in the order of the text: each operation gives one and the same value in every world that meets an invariant, keeps the invariant, and looks only at slots that its own edges fix. -/
namespace Go
section
variable{P:Program}{Q:Exit→Act→World→Prop}
/-- What one operation comes to: the act a1, in a world that meets I. -/
def FreeOne(I:World→Prop)(a1:Act):Exit→Act→World→Prop
  | .normal,a',w'=>a'=a1∧I w'
  | _,_,_=>False
theorem freeOne_out(I:World→Prop)(a1:Act):¬LetsOut (FreeOne I a1):=fun ⟨_,_,h⟩=>h
theorem put_inj{a:Act}{dst:Option Tmp}{v u:Value}(h:a.put dst v=a.put dst u)(b:Act)(hb:b.tmps.size=a.tmps.size):b.put dst v=b.put dst u:=by
  cases dst with
  | none=>rfl
  | some d=>
    by_cases hd:d<a.tmps.size
    · have h1:(a.put (some d) v).tmps[d]? =(a.put (some d) u).tmps[d]? :=by rw [h]
      simp [Act.put,hd] at h1
      rw [h1]
    · simp only [Act.put]
      have hd2:b.tmps.size≤d:=by rw [hb];exact Nat.le_of_not_lt hd
      rw [Array.setIfInBounds_eq_of_size_le hd2,Array.setIfInBounds_eq_of_size_le hd2]
theorem put_defers_ne{a:Act}{dst:Option Tmp}{v u:Value}{d:Deferred}(h:({a with defers:=d::a.defers}:Act).put dst v=a.put dst u):False:=by
  have h1:(({a with defers:=d::a.defers}:Act).put dst v).defers=(a.put dst u).defers:=by rw [h]
  cases dst<;>simp [Act.put] at h1
/-- Gs operation at an act that looks the same to it. -/
theorem free_op{ops:Array Oper}{o:Oper}{I:World→Prop}{a b:Act}{v:Value}{w:World}{i:Nat}(ho:ops[i]? =some o)
    (h:wpList P ops (FreeOne I (a.put o.dst v)) [o] a w) (he:execOp b.eval o=execOp a.eval o)
    (hw:Region.wanted o (yielded ops b.tmps)=Region.wanted o (yielded ops a.tmps)) (hb:b.tmps.size=a.tmps.size)
    {K:Act→World→Prop} (hK:∀w',I w'→K (b.put o.dst v) w'):wpOp P ops Q i K b w:=by
  unfold wpOp
  rw [ho]
  dsimp only
  rw [hw]
  simp only [wpList] at h
  split
  · rename_i hwt
    rw [if_pos hwt] at h
    rcases h with h|⟨_,h⟩
    · left
      unfold Oper.wp at h⊢
      rw [he]
      generalize (execOp a.eval o).run P w=r at h⊢
      cases r with
      | ok n w'=>
        cases n<;>simp only [Oper.upon] at h⊢
        case value u=>rw [put_inj h.1 b hb];exact hK _ h.2
        case skip=>rw [put_inj h.1 b hb];exact hK _ h.2
        case defer d=>exact (put_defers_ne h.1).elim
        case enter f args=>
          refine Calls.mono h fun e w'' q=>?_
          cases e with
          | returned u=>dsimp only at q⊢;rw [put_inj q.1 b hb];exact hK _ q.2
          | panicked chain=>exact q.elim
          | outgrown=>exact (freeOne_out _ _ q).elim
        case row row args=>exact Rows.mono h fun u w'' q=>by rw [put_inj q.1 b hb];exact hK _ q.2
      | halt x w'=>cases x<;>simp only [Oper.upon] at h⊢ <;>exact h.elim
    · exact (freeOne_out _ _ h).elim
  · rename_i hwt
    rw [if_neg hwt] at h
    rw [put_inj h.1 b hb]
    exact hK _ h.2
/-- What an operation comes to is a put. -/
theorem free_put{ops:Array Oper}{o:Oper}{I:World→Prop}{a a1:Act}{w:World}(h:wpList P ops (FreeOne I a1) [o] a w):(∃v,a1=a.put o.dst v)∨(∃d,a1=({a with defers:=d::a.defers}:Act).put o.dst undef):=by
  simp only [wpList] at h
  split at h
  · rcases h with h|⟨_,h⟩
    · unfold Oper.wp at h
      generalize (execOp a.eval o).run P w=r at h
      cases r with
      | ok n w'=>
        cases n<;>simp only [Oper.upon] at h
        case value u=>exact .inl ⟨u,h.1.symm⟩
        case skip=>exact .inl ⟨_,h.1.symm⟩
        case defer d=>exact .inr ⟨d,h.1.symm⟩
        case enter f args=>
          obtain ⟨e,w'',fr,q,_⟩:=h []
          cases e with
          | returned u=>exact .inl ⟨u,q.1.symm⟩
          | panicked chain=>exact q.elim
          | outgrown=>exact (freeOne_out _ _ q).elim
        case row row args=>
          obtain ⟨u,w'',q,_⟩:=h default []
          exact .inl ⟨u,q.1.symm⟩
      | halt x w'=>cases x<;>simp only [Oper.upon] at h<;>exact h.elim
    · exact (freeOne_out _ _ h).elim
  · exact .inl ⟨_,h.1.symm⟩
end
section
variable{P:Program}{Q:Exit→Act→World→Prop}
end
section
variable{P:Program}{ops:Array Oper}{rest:List Oper}{o:Oper}{a:Act}{w:World}{Q:Exit→Act→World→Prop}
theorem wpList_wanted(hw:Region.wanted o (yielded ops a.tmps)=true)(h:∀K:Act→World→Prop,(∀a w,wpList P ops Q rest a w→K a w)→o.wp P a w K Q):wpList P ops Q (o::rest) a w:=
  wpList_step fun K hK=>by rw [if_pos hw];exact h K hK
/-- The load of a whole row, guarded or not. -/
theorem wpList_load_any(hw:Region.wanted o (yielded ops a.tmps)=true)(ty:TypeId)(x:Operand)(ho:o.op= .load ty x)
    (b off:Nat) (hx:a.eval x= .pointer (some ⟨b,off,none⟩)) (cs:List Value) (d:TypeDesc) (hc:w.rangeAt b off cs)
    (hu:P.underlying ty=some d) (hd:d.isRow=true) (hi:(P.info? ty).map (·.size)=some cs.length)
    (h:wpList P ops Q rest (a.put o.dst (.agg cs.toArray)) w):wpList P ops Q (o::rest) a w:=
  wpList_wanted hw fun _ hK=>wp_load_mid ty x ho b off hx cs d hc hu hd hi (hK _ _ h)
end
open Go.Proofs.YtngojkompmcceaaGreatDoor in
/-- The load of a row of ints, guarded or not. -/
theorem wpList_load_iv{P:Program}{ops:Array Oper}{rest:List Oper}{o:Oper}{a:Act}{w:World}{Q:Exit→Act→World→Prop}(hw:Region.wanted o (yielded ops a.tmps)=true)(ty:TypeId)(x:Operand)(ho:o.op= .load ty x)
    (g:Nat) (hx:a.eval x= .pointer (some ⟨g,0,none⟩)) (l:List Int) (d:TypeDesc) (hc:B4 w g l)
    (hu:P.underlying ty=some d) (hd:d.isRow=true) (hi:(P.info? ty).map (·.size)=some l.length)
    (h:wpList P ops Q rest (a.put o.dst (.agg (iv l))) w):wpList P ops Q (o::rest) a w:=
  wpList_load_any hw ty x ho g 0 hx (l.map (Value.int .i64)) d hc.range hu hd (by rw [hi,List.length_map]) h
open Go.Proofs.YtngojkompmcceaaGreatDoor in
/-- A new variable for a row of ints: the world behind it is told by its facts alone. -/
theorem wpList_alloc_iv{P:Program}{ops:Array Oper}{rest:List Oper}{o:Oper}{a:Act}{w:World}{Q:Exit→Act→World→Prop}(hgd:o.guard=none)(ty:TypeId)(ho:o.op= .alloc ty)
    (l:List Int) (hz:∀w,(zeroValue ty).run P w= .ok (.agg (iv l)) w)
    (h:∀w2,B4 w2 w.heap.size l→AP w w2→w2.heap.size=w.heap.size+1→wpList P ops Q rest (a.put o.dst (.pointer (some ⟨w.heap.size,0,none⟩))) w2):wpList P ops Q (o::rest) a w:=
  wpList_plain hgd fun _ hK=>by
    have hh:=hK _ _ (h (w.alloc (.cells (iv l) ty)) (B4.new w l ty) ((AP.refl w).alloc _) (by simp))
    unfold Oper.wp execOp
    simp only [ho]
    simp [go_sem,hz,newVar,newRow,Value.cells]
    exact hh
open Go.Proofs.YtngojkompmcceaaGreatDoor in
/-- A parameter, or a captured variable, that is a row of ints. -/
theorem wpList_box_iv{P:Program}{ops:Array Oper}{rest:List Oper}{o:Oper}{a:Act}{w:World}{Q:Exit→Act→World→Prop}(hgd:o.guard=none)(ty:TypeId)(x:Operand)(ho:o.op= .box ty x)
    (l:List Int) (hx:a.eval x= .agg (iv l))
    (h:∀w2,B4 w2 w.heap.size l→AP w w2→w2.heap.size=w.heap.size+1→wpList P ops Q rest (a.put o.dst (.pointer (some ⟨w.heap.size,0,none⟩))) w2):wpList P ops Q (o::rest) a w:=
  wpList_plain hgd fun _ hK=>by
    have hh:=hK _ _ (h (w.alloc (.cells (iv l) ty)) (B4.new w l ty) ((AP.refl w).alloc _) (by simp))
    unfold Oper.wp execOp
    simp only [ho,hx]
    simp [go_sem,newVar,newRow,Value.cells]
    exact hh
open Go.Proofs.YtngojkompmcceaaGreatDoor in
/-- A whole row of ints into a block that holds one. -/
theorem wpList_store_iv{P:Program}{ops:Array Oper}{rest:List Oper}{o:Oper}{a:Act}{w:World}{Q:Exit→Act→World→Prop}(hgd:o.guard=none)(ty:TypeId)(x y:Operand)(ho:o.op= .store ty x y)
    (g:Nat) (hx:a.eval x= .pointer (some ⟨g,0,none⟩)) (m l:List Int) (hy:a.eval y= .agg (iv m)) (hr:B4 w g l)
    (hi:(P.info? ty).map (·.size)=some m.length) (hc:l.length=m.length)
    (h:wpList P ops Q rest (a.put o.dst undef) (w.setRow g (iv m))):wpList P ops Q (o::rest) a w:=by
  obtain ⟨t,hr⟩:=hr
  exact wpList_store_row hgd ty x y ho g (iv m) hx hy t (iv l) hr (by rw [hi,Cc]) (by rw [Cc,Cc,hc]) (G8 m) h
end Go
namespace Go.Proofs.YtngojkompmcceaaGreatDoor
open Go.RowKit
set_option linter.unusedVariables false
set_option maxRecDepth 100000
set_option maxHeartbeats 8000000
def F4(w:World)(g:Nat)(cs:Array Value):Prop:=∃t,w.heap[g]? =some (.cells cs t (0,0))
theorem F4.cell{w:World}{g:Nat}{cs:Array Value}(h:F4 w g cs)(i:Nat):w.cell? ⟨g,i,none⟩=cs[i]? :=by
 obtain ⟨t,h⟩:=h
 rw [cell_of_row w g i _ t _ h]
theorem F4.free{w:World}{g:Nat}{cs:Array Value}(h:F4 w g cs)(i:Nat):w.frozen? ⟨g,i,none⟩=false:=by
 obtain ⟨t,h⟩:=h
 exact frozen_of_row w g i _ t h
theorem F4.set{w:World}{g:Nat}{cs:Array Value}(h:F4 w g cs)(i:Nat)(x:Value):F4 (w.setCell ⟨g,i,none⟩ x) g (cs.setIfInBounds i x):=by
 obtain ⟨t,h⟩:=h
 exact ⟨t,by rw [heap_setCell_same w g i _ t _ h]⟩
theorem F4.lt{w:World}{g:Nat}{cs:Array Value}(h:F4 w g cs):g<w.heap.size:=by
 obtain ⟨t,h⟩:=h
 exact (Array.getElem?_eq_some_iff.1 h).1
theorem F4.of_heap{w w':World}{g:Nat}{cs:Array Value}(h:F4 w g cs)(hh:w'.heap[g]? =w.heap[g]?):F4 w' g cs:=by
 obtain ⟨t,h⟩:=h
 exact ⟨t,by rw [hh];exact h⟩
theorem F4.new(w:World)(cs:Array Value)(t:TypeId):F4 (w.alloc (.cells cs t)) w.heap.size cs:=⟨t,heap_alloc_new w _⟩
def bv(l:List Nat):List Value:=l.map fun (x:Nat)=> .int .u8 (x:Int)
structure Cm(f:List Nat)(w w':World):Prop where
 os:w'.os=w.os
 tape:w'.tape=w.tape
 output:w'.output=w.output
 size:w.heap.size≤w'.heap.size
 block:∀k,k<w.heap.size→k∉f→w'.heap[k]? =w.heap[k]?
theorem Cm.ext{f:List Nat}{W w w':World}(h:Cm f w w')(hE:AP W w)(hf:∀b∈f,W.heap.size≤b):AP W w':=
 ⟨h.os.trans hE.os,h.tape.trans hE.tape,h.output.trans hE.output,Nat.le_trans hE.size h.size,fun k hk=>by
  rw [h.block k (Nat.lt_of_lt_of_le hk hE.size) (fun hm=>by have:=hf k hm;omega)];exact hE.block k hk⟩
theorem Cm.setCell(w:World)(a:Addr)(v:Value):Cm [a.block] w (w.setCell a v):=
 ⟨rfl,rfl,rfl,by simp,fun k _ hm=>heap_setCell_other w a k v (by simpa using hm)⟩
theorem Cm.setRow(w:World)(g:Nat)(cs:Array Value):Cm [g] w (w.setRow g cs):=
 ⟨rfl,rfl,rfl,by simp,fun k _ hm=>setRow_other w g k cs (by simpa using hm)⟩
theorem Cm.grown{w w':World}{row:Option Nat}(h:w.grownBy w' row):Cm row.toList w w':=
 ⟨h.os,h.tape,h.output,h.size,fun k hk hm=>h.block k hk (fun e=>hm (by simp [←e]))⟩
structure Af where
 holds:World→List Nat→Prop
 lt:∀{w f},holds w f→∀b∈f,b<w.heap.size
 loc:∀{w w' f},holds w f→(∀b∈f,w'.heap[b]? =w.heap[b]?)→holds w' f
def Bh(w:World):List Af→List Nat→Prop
 | [],f=>f=[]
 | r::rs,f=>∃f1 f2,f=f1++f2∧r.holds w f1∧Bh w rs f2
theorem Bh.lt{w:World}:∀{rs:List Af} {f:List Nat},Bh w rs f→∀b∈f,b<w.heap.size
 | [],f,h,b,hb=>by rw [show f=[] from h] at hb;cases hb
 | r::rs,f,⟨f1,f2,e,h1,h2⟩,b,hb=>by
   rw [e,List.mem_append] at hb
   rcases hb with hb|hb
   ·exact r.lt h1 b hb
   exact Bh.lt h2 b hb
theorem Bh.loc{w w':World}:∀{rs:List Af} {f:List Nat},Bh w rs f→(∀b∈f,w'.heap[b]? =w.heap[b]?)→Bh w' rs f
 | [],f,h,_=>h
 | r::rs,f,⟨f1,f2,e,h1,h2⟩,hs=>⟨f1,f2,e,r.loc h1 fun b hb=>hs b (by rw [e];exact List.mem_append_left _ hb),Bh.loc h2 fun b hb=>hs b (by rw [e];exact List.mem_append_right _ hb)⟩
theorem Bh.append{w:World}:∀{rs:List Af} {ss:List Af} {f g:List Nat},Bh w rs f→Bh w ss g→Bh w (rs++ss) (f++g)
 | [],ss,f,g,h,k=>by rw [show f=[] from h];exact k
 | r::rs,ss,f,g,⟨f1,f2,e,h1,h2⟩,k=>⟨f1,f2++g,by rw [e,List.append_assoc],h1,Bh.append h2 k⟩
theorem Bh.split{w:World}:∀{rs:List Af} {ss:List Af} {f:List Nat},Bh w (rs++ss) f→∃f1 f2,f=f1++f2∧Bh w rs f1∧Bh w ss f2
 | [],ss,f,h=>⟨[],f,rfl,rfl,h⟩
 | r::rs,ss,f,⟨f1,f2,e,h1,h2⟩=>by
   obtain ⟨g1,g2,e2,k1,k2⟩:=Bh.split h2
   exact ⟨f1++g1,g2,by rw [e,e2,List.append_assoc],⟨f1,g1,rfl,h1,k1⟩,k2⟩
inductive AK(r:Af):List Af→List Af→Prop
 | head {rs:List Af}:AK r (r::rs) rs
 | tail {x:Af} {rs rs':List Af} (h:AK r rs rs'):AK r (x::rs) (x::rs')
theorem Bh.pull{w:World}{r:Af}{rs rs':List Af}(p:AK r rs rs'):∀{f:List Nat},Bh w rs f→∃f',f'.Perm f∧Bh w (r::rs') f':=by
 induction p with
 | head=>intro f h;exact ⟨f,List.Perm.refl f,h⟩
 | @tail x rs rs' p ih=>
   intro f h
   obtain ⟨f1,f2,e,h1,h2⟩:=h
   obtain ⟨f',hp,g1,g2,e2,k1,k2⟩:=ih h2
   refine ⟨g1++(f1++g2),?_,g1,f1++g2,rfl,k1,f1,g2,rfl,h1,k2⟩
   rw [e]
   have p1:(g1++(f1++g2)).Perm (f1++(g1++g2)):=by
    rw [←List.append_assoc,←List.append_assoc]
    exact List.Perm.append_right g2 List.perm_append_comm
   exact p1.trans (List.Perm.append_left f1 (by rw [←e2];exact hp))
def St(W w:World)(rs:List Af):Prop:=AP W w∧∃f,f.Nodup∧(∀b∈f,W.heap.size≤b)∧Bh w rs f
theorem St.start(W:World):St W W []:=⟨AP.refl W,[],List.nodup_nil,fun b hb=>(by cases hb),rfl⟩
theorem St.of_ext{W w:World}(h:AP W w):St W w []:=⟨h,[],List.nodup_nil,fun b hb=>(by cases hb),rfl⟩
theorem St.ext{W w w':World}{rs:List Af}(h:St W w rs)(hE:AP w w'):St W w' rs:=by
 obtain ⟨h1,f,h2,h3,h4⟩:=h
 exact ⟨h1.trans hE,f,h2,h3,h4.loc fun b hb=>hE.at (h4.lt b hb)⟩
theorem St.drew{W w:World}{rs:List Af}(h:St W w rs):St W w.drew rs:=h.ext (AP.refl w).drew
theorem St.pull{W w:World}{r:Af}{rs rs':List Af}(h:St W w rs)(p:AK r rs rs'):St W w (r::rs'):=by
 obtain ⟨h1,f,h2,h3,h4⟩:=h
 obtain ⟨f',hp,h5⟩:=h4.pull p
 exact ⟨h1,f',hp.nodup_iff.2 h2,fun b hb=>h3 b (hp.mem_iff.1 hb),h5⟩
theorem St.change{W w w':World}{r:Af}{rs rs1:List Af}(h:St W w (r::rs))
 (hw:∀f1,r.holds w f1→(∀b∈f1,W.heap.size≤b)→f1.Nodup→∃f',Bh w' rs1 f'∧f'.Nodup∧(∀b∈f',b∈f1∨w.heap.size≤b)∧Cm f1 w w'):St W w' (rs1++rs):=by
 obtain ⟨h1,f,h2,h3,f1,f2,e,h4,h5⟩:=h
 subst e
 obtain ⟨hn1,hn2,hdis⟩:=List.nodup_append.1 h2
 obtain ⟨f',k1,k2,k3,k4⟩:=hw f1 h4 (fun b hb=>h3 b (List.mem_append_left _ hb)) hn1
 have hE:=k4.ext h1 (fun b hb=>h3 b (List.mem_append_left _ hb))
 refine ⟨hE,f'++f2,List.nodup_append.2 ⟨k2,hn2,fun a ha b hb hab=>?_⟩,fun b hb=>?_,Bh.append k1 (h5.loc fun b hb=>k4.block b (h5.lt b hb) fun hm=>hdis b hm b hb rfl)⟩
 ·subst hab
  rcases k3 a ha with h|h
  ·exact hdis a h a hb rfl
  have:=h5.lt a hb;omega
 rcases List.mem_append.1 hb with h|h
 ·rcases k3 b h with h'|h'
  ·exact h3 b (List.mem_append_left _ h')
  have:=h1.sz;omega
 exact h3 b (List.mem_append_right _ h)
inductive JZ:List Af→List Af→Prop
 | nil {rs:List Af}:JZ [] rs
 | refl {rs:List Af}:JZ rs rs
 | skip {x:Af} {xs rs:List Af} (h:JZ xs rs):JZ xs (x::rs)
 | cons {r:Af} {xs rs rs':List Af} (p:AK r rs rs') (h:JZ xs rs'):JZ (r::xs) rs
theorem Bh.sub{w:World}{xs rs:List Af}(s:JZ xs rs):∀{f:List Nat},f.Nodup→Bh w rs f→∃f',f'.Nodup∧(∀b∈f',b∈f)∧Bh w xs f':=by
 induction s with
 | nil=>intro f _ _;exact ⟨[],List.nodup_nil,fun b hb=>(by cases hb),rfl⟩
 | refl=>intro f hn h;exact ⟨f,hn,fun b hb=>hb,h⟩
 | skip s ih=>
   intro f hn h
   obtain ⟨f1,f2,e,h1,h2⟩:=h
   subst e
   obtain ⟨f3,k1,k2,k3⟩:=ih (List.nodup_append.1 hn).2.1 h2
   exact ⟨f3,k1,fun b hb=>List.mem_append_right _ (k2 b hb),k3⟩
 | cons p s ih=>
   intro f hn h
   obtain ⟨f',hp,f1,f2,e,h1,h2⟩:=h.pull p
   have hn':=hp.nodup_iff.2 hn
   subst e
   obtain ⟨n1,n2,hdis⟩:=List.nodup_append.1 hn'
   obtain ⟨f3,k1,k2,k3⟩:=ih n2 h2
   refine ⟨f1++f3,List.nodup_append.2 ⟨n1,k1,fun a ha b hb=>hdis a ha b (k2 b hb)⟩,fun b hb=>hp.mem_iff.1 ?_,f1,f3,rfl,h1,k3⟩
   rcases List.mem_append.1 hb with h|h
   ·exact List.mem_append_left _ h
   exact List.mem_append_right _ (k2 b h)
theorem St.sub{W w:World}{xs rs:List Af}(h:St W w rs)(s:JZ xs rs):St W w xs:=by
 obtain ⟨h1,f,h2,h3,h4⟩:=h
 obtain ⟨f',k1,k2,k3⟩:=h4.sub s h2
 exact ⟨h1,f',k1,fun b hb=>h3 b (k2 b hb),k3⟩
theorem St.call{W w w':World}{rs rs':List Af}(h:St W w rs)(h':St w w' rs'):St W w' (rs'++rs):=by
 obtain ⟨h1,f,h2,h3,h4⟩:=h
 obtain ⟨k1,g,k2,k3,k4⟩:=h'
 refine ⟨h1.trans k1,g++f,List.nodup_append.2 ⟨k2,h2,fun a ha b hb hab=>?_⟩,fun b hb=>?_,Bh.append k4 (h4.loc fun b hb=>k1.at (h4.lt b hb))⟩
 ·subst hab;have:=k3 a ha;have:=h4.lt a hb;omega
 rcases List.mem_append.1 hb with h|h
 ·have:=k3 b h;have:=h1.sz;omega
 exact h3 b h
theorem St.call1{W w w':World}{rs:List Af}{r:Af}(h:St W w rs)(h':St w w' [r]):St W w' (r::rs):=h.call h'
def QD{ι:Type}(F:ι→List Af):Af where
 holds w f:=∃i,Bh w (F i) f
 lt:=fun ⟨_,h⟩=>h.lt
 loc:=fun ⟨i,h⟩ hs=>⟨i,h.loc hs⟩
theorem St.open{W w:World}{ι:Type}{F:ι→List Af}{rs:List Af}(h:St W w (QD F::rs)):∃i,St W w (F i++rs):=by
 obtain ⟨h1,f,h2,h3,f1,f2,e,⟨i,h4⟩,h5⟩:=h
 exact ⟨i,h1,f,h2,h3,e▸ Bh.append h4 h5⟩
theorem St.close{W w:World}{ι:Type}{F:ι→List Af}{rs:List Af}(i:ι)(h:St W w (F i++rs)):St W w (QD F::rs):=by
 obtain ⟨h1,f,h2,h3,h4⟩:=h
 obtain ⟨f1,f2,e,k1,k2⟩:=h4.split
 exact ⟨h1,f,h2,h3,f1,f2,e,⟨i,k1⟩,k2⟩
def blk(g:Nat)(cs:List Value):Af where
 holds w f:=f=[g]∧F4 w g cs.toArray
 lt:=fun ⟨e,h⟩ b hb=>by rw [e,List.mem_singleton] at hb;rw [hb];exact h.lt
 loc:=fun ⟨e,h⟩ hs=>⟨e,h.of_heap (hs _ (by rw [e];simp))⟩
def arr(g n:Nat)(l:List Int):Af where
 holds w f:=f=[g]∧B4 w g l∧l.length=n
 lt:=fun ⟨e,h,_⟩ b hb=>by rw [e,List.mem_singleton] at hb;rw [hb];exact h.lt
 loc:=fun ⟨e,h,hn⟩ hs=>⟨e,h.of_heap (hs _ (by rw [e];simp)),hn⟩
def own(e:TypeId)(s:Nat)(a:Option Addr)(n c:Nat)(xs:List Value):Af where
 holds w f:=f=(Value.slice a n c).ownBlock.toList∧w.ownsRow 0 e s (.slice a n c) n xs
 lt:=fun ⟨e,h⟩ b hb=>(h.lt b (by rw [e] at hb;simpa using hb)).2
 loc:=fun {w w' f} ⟨e',h⟩ hs=>⟨e',h.1,h.2.elim .inl fun ⟨g,cap,cur,k1,k2,k3,k4⟩=> .inr ⟨g,cap,cur,k1,k2,(hs g (by rw [e',k1];simp [Value.ownBlock])).trans k3,k4⟩⟩
theorem St.blk{W w:World}{g:Nat}{cs:List Value}{rs rs':List Af}(h:St W w rs)(p:AK (blk g cs) rs rs'):F4 w g cs.toArray∧W.heap.size≤g:=by
 obtain ⟨_,f,_,h3,f1,f2,e,⟨e1,h4⟩,_⟩:=h.pull p
 exact ⟨h4,h3 g (by rw [e,e1];simp)⟩
theorem St.arr{W w:World}{g n:Nat}{l:List Int}{rs rs':List Af}(h:St W w rs)(p:AK (arr g n l) rs rs'):B4 w g l∧l.length=n:=by
 obtain ⟨_,f,_,h3,f1,f2,e,⟨e1,h4⟩,_⟩:=h.pull p
 exact h4
theorem St.own{W w:World}{e:TypeId}{s n c:Nat}{a:Option Addr}{xs:List Value}{rs rs':List Af}(h:St W w rs)(p:AK (own e s a n c xs) rs rs'):w.ownsRow 0 e s (.slice a n c) n xs:=by
 obtain ⟨_,f,_,h3,f1,f2,e,⟨e1,h4⟩,_⟩:=h.pull p
 exact h4
theorem St.sl{W w:World}{e:TypeId}{s n c:Nat}{a:Option Addr}{xs:List Value}{rs rs':List Af}(h:St W w rs)(p:AK (Go.Proofs.YtngojkompmcceaaGreatDoor.own e s a n c xs) rs rs'):Sl w s (.slice a n c) n xs:=Sl.ofOwn (h.own p)
theorem St.alloc{W w:World}{rs:List Af}(h:St W w rs)(cs:List Value)(t:TypeId):St W (w.alloc (.cells cs.toArray t)) (Go.Proofs.YtngojkompmcceaaGreatDoor.blk w.heap.size cs::rs):=by
 obtain ⟨h1,f,h2,h3,h4⟩:=h
 refine ⟨h1.alloc _,w.heap.size::f,List.nodup_cons.2 ⟨fun hm=>by have:=h4.lt _ hm;omega,h2⟩,fun b hb=>?_,[w.heap.size],f,rfl,⟨rfl,F4.new w _ t⟩,h4.loc fun b hb=>?_⟩
 ·rcases List.mem_cons.1 hb with h|h
  ·rw [h];exact h1.sz
  exact h3 b h
 exact heap_alloc_old w _ (h4.lt b hb)
theorem M9{W w:World}{g n:Nat}{l:List Int}{rs:List Af}(hn:l.length=n)(h:St W w (blk g (l.map (Value.int .i64))::rs)):St W w (arr g n l::rs):=by
 obtain ⟨h1,f,h2,h3,f1,f2,e,⟨e1,h4⟩,h5⟩:=h
 exact ⟨h1,f,h2,h3,f1,f2,e,⟨e1,h4,hn⟩,h5⟩
theorem St.allocArr{W w:World}{rs:List Af}(h:St W w rs)(l:List Int)(n:Nat)(hn:l.length=n)(t:TypeId):St W (w.alloc (.cells (iv l) t)) (Go.Proofs.YtngojkompmcceaaGreatDoor.arr w.heap.size n l::rs):=
 M9 hn (h.alloc (l.map (Value.int .i64)) t)
theorem St.nil{W w:World}{rs:List Af}(h:St W w rs)(e:TypeId)(s:Nat):St W w (Go.Proofs.YtngojkompmcceaaGreatDoor.own e s none 0 0 []::rs):=by
 obtain ⟨h1,f,h2,h3,h4⟩:=h
 exact ⟨h1,f,h2,h3,[],f,rfl,⟨rfl,by simp, .inl ⟨rfl,rfl⟩⟩,h4⟩
inductive CK(v:Value):Nat→List Value→List Value→Prop
 | head {x:Value} {l:List Value}:CK v 0 (x::l) (v::l)
 | tail {x:Value} {i:Nat} {l l':List Value} (h:CK v i l l'):CK v (i+1) (x::l) (x::l')
theorem CK.eq{v:Value}{i:Nat}{l l':List Value}(h:CK v i l l'):i<l.length∧l'=l.set i v:=by
 induction h with
 | head=>exact ⟨by simp,rfl⟩
 | tail h ih=>exact ⟨by simp;exact ih.1,by rw [List.set_cons_succ,ih.2]⟩
section
variable{P:Program}{ops:Array Oper}{Q:Exit→Act→World→Prop}{rest:List Oper}{o:Oper}{a:Act}{w:World}
theorem Ot(hw:Region.wanted o (yielded ops a.tmps)=true)(h:o.wp P a w (wpList P ops Q rest) Q):wpList P ops Q (o::rest) a w:=by
 unfold wpList
 rw [if_pos hw]
 exact .inl h
end
def Gs(P:Program)(ty:TypeId):Prop:=(P.underlying ty).map TypeDesc.isRow=some false∧(P.info? ty).map (·.size)=some 1
def Cx(P:Program)(ty:TypeId)(n:Nat):Prop:=(P.underlying ty).map TypeDesc.isRow=some true∧(P.info? ty).map (·.size)=some n
structure Bq(P:Program)(t e:TypeId)(s b:Nat):Prop where
 ht:P.underlying t=some (.slice e)
 ex:∃i z,P.info? e=some i∧i.zero=some z∧i.size=s∧i.bytes=b∧z.cells.size=s
 pos:0<s
theorem Bq.mk'{P:Program}{t e:TypeId}{s b:Nat}(z:Value)(ht:P.underlying t=some (.slice e))(hi:(P.info? e).map (fun i=>(i.zero,i.size,i.bytes))=some (some z,s,b))(hz:z.cells.size=s)(hp:0<s):Bq P t e s b:=by
 obtain ⟨i,h1,h2,h3,h4⟩:=info_parts hi
 exact ⟨ht,⟨i,z,h1,h2,h3,h4,hz⟩,hp⟩
def A2{α:Type}(l:List α)(n:Nat):Prop:=l.length=n
theorem A2.out{α:Type}{l:List α}{n:Nat}(h:A2 l n):l.length=n:=h
theorem A2.rep{α:Type}{z:α}{n:Nat}:A2 (List.replicate n z) n:=List.length_replicate
theorem A2.set{α:Type}{l:List α}{z:α}{n i:Nat}(h:A2 l n):A2 (l.set i z) n:=by unfold A2 at*;simpa using h
inductive Cv(u:Value):Value→Prop
 | int {k:IntKind} {n:Int} (h:u= .int k n):Cv u (.int k n)
 | bool {b:Bool} (h:u= .bool b):Cv u (.bool b)
 | slice {a:Option Addr} {n c:Nat} (h:u= .slice a n c):Cv u (.slice a n c)
 | pointer {p:Option Addr} (h:u= .pointer p):Cv u (.pointer p)
 | string {s:ByteArray} (h:u= .string s):Cv u (.string s)
 | map {m:Option Nat} (h:u= .map m):Cv u (.map m)
 | func {f:Fn} {x y:Array Value} (h:u= .func f x y):Cv u (.func f x y)
 | agg {cs:List Value} (h:u= .agg cs.toArray):Cv u (.agg cs.toArray)
theorem Cv.eq{u v:Value}(h:Cv u v):u=v:=by cases h<;>assumption
section
variable{P:Program}{W w:World}{rs rs':List Af}{Q:Exit→Act→World→Prop}{K:Act→World→Prop}{o:Oper}{a:Act}
theorem Ki(w:World){ty:TypeId}{b:Bool}(h:(P.underlying ty).map TypeDesc.isRow=some b):(isAgg ty).run P w= .ok b w:=by
 cases hu:P.underlying ty with
 | none=>simp [hu] at h
 | some d=>
   rw [hu,Option.map_some,Option.some.injEq] at h
   unfold isAgg
   rw [Sem.run_bind,run_underlying hu w]
   subst h
   cases d<;>rfl
theorem BM(w:World){ty:TypeId}{n:Nat}(h:(P.info? ty).map (·.size)=some n):(sizeOf ty).run P w= .ok n w:=by
 cases hq:P.info? ty with
 | none=>simp [hq] at h
 | some i=>simp [hq] at h;simp [sizeOf,typeInfo,hq,h]
theorem Kj(w:World){ty:TypeId}{v:Value}{p:Addr}(h1:Gs P ty)(hc:w.cell? p=some v):(Instr.loadAt ty (.pointer (some p))).run P w= .ok v w:=by
 simp only [Instr.loadAt,Instr.sureAddr,Sem.run_bind,Sem.run_pure,Result.andThen_ok,loadVar,Ki w h1.1,Bool.false_eq_true,if_false,run_load,hc]
theorem JD(w:World){ty:TypeId}{u v:Value}{p:Addr}(h1:Gs P ty)(hc:w.cell? p=some u)(hf:w.frozen? p=false)(ho:v.oneCell'=true):
 (Instr.storeAt ty (.pointer (some p)) v).run P w= .ok () (w.setCell p v):=by
 have hcs:v.cells=#[v]:=by cases v<;>first|rfl|cases ho
 have ha:p.add 0=p:=by simp [Addr.add]
 simp only [Instr.storeAt,Instr.sureAddr,Sem.run_bind,Sem.run_pure,Result.andThen_ok,storeVar,BM w h1.2,hcs]
 simp only [List.size_toArray,List.length_cons,List.length_nil,Nat.zero_add,ne_eq,not_true_eq_false,if_false,storeCells,Sem.run_bind,ha,run_store P w p v _ ho,hc,hf,Bool.false_eq_true,Result.andThen_ok,Sem.run_pure]
theorem CU(hS:St W w rs)(ty:TypeId)(ho:o.op= .alloc ty)(v:Value)(cs:List Value)(hz:∀w,(zeroValue ty).run P w= .ok v w)(hc:v.cells=cs.toArray)
 (h:∀g w',St W w' (blk g cs::rs)→K (a.put o.dst (.pointer (some ⟨g,0,none⟩))) w'):o.wp P a w K Q:=by
 have hh:=h _ _ (hS.alloc cs ty)
 rw [←hc] at hh
 unfold Oper.wp execOp
 simp only [ho]
 simp [go_sem,hz,newVar,newRow]
 exact hh
theorem Kw(hS:St W w rs)(ty:TypeId)(ho:o.op= .alloc ty)(l:List Int)(n:Nat)(hn:A2 l n)(hz:∀w,(zeroValue ty).run P w= .ok (.agg (iv l)) w)
 (h:∀g w',St W w' (arr g n l::rs)→K (a.put o.dst (.pointer (some ⟨g,0,none⟩))) w'):o.wp P a w K Q:=by
 have hh:=h _ _ (hS.allocArr l n hn ty)
 unfold Oper.wp execOp
 simp only [ho]
 simp [go_sem,hz,newVar,newRow,Value.cells]
 exact hh
theorem Jx(hS:St W w rs)(ty:TypeId)(x:Operand)(ho:o.op= .box ty x)(v:Value)(hx:Cv (a.eval x) v)(h1:v.oneCell'=true)
 (h:∀g w',St W w' (blk g [v]::rs)→K (a.put o.dst (.pointer (some ⟨g,0,none⟩))) w'):o.wp P a w K Q:=by
 have hh:=h _ _ (hS.alloc [v] ty)
 have hcs:v.cells=#[v]:=by cases v<;>first|rfl|cases h1
 rw [show [v].toArray=v.cells from hcs.symm] at hh
 unfold Oper.wp execOp
 simp only [ho,hx.eq]
 simp [go_sem,newVar,newRow]
 exact hh
theorem Hs(hS:St W w rs)(ty:TypeId)(x:Operand)(ho:o.op= .box ty x)(cs:List Value)(hx:a.eval x= .agg cs.toArray)
 (h:∀g w',St W w' (blk g cs::rs)→K (a.put o.dst (.pointer (some ⟨g,0,none⟩))) w'):o.wp P a w K Q:=by
 have hh:=h _ _ (hS.alloc cs ty)
 unfold Oper.wp execOp
 simp only [ho,hx]
 simp [go_sem,newVar,newRow,Value.cells]
 exact hh
theorem Nr(hS:St W w rs)(ty:TypeId)(x:Operand)(ho:o.op= .box ty x)(l:List Int)(n:Nat)(hx:a.eval x= .agg (iv l))(hn:A2 l n)
 (h:∀g w',St W w' (arr g n l::rs)→K (a.put o.dst (.pointer (some ⟨g,0,none⟩))) w'):o.wp P a w K Q:=by
 have hh:=h _ _ (hS.allocArr l n hn ty)
 unfold Oper.wp execOp
 simp only [ho,hx]
 simp [go_sem,newVar,newRow,Value.cells]
 exact hh
theorem Ea(ty:TypeId)(x:Operand)(ho:o.op= .load ty x)(p:Addr)(hx:a.eval x= .pointer (some p))(h1:Gs P ty)(v:Value)(hc:w.cell? p=some v)
 (h:K (a.put o.dst v) w):o.wp P a w K Q:=by
 unfold Oper.wp execOp
 simp only [ho,hx,Sem.run_bind,Kj w h1 hc,Result.andThen_ok,Sem.run_pure]
 exact h
theorem Fx(hS:St W w rs)(ty:TypeId)(x:Operand)(ho:o.op= .load ty x)(p:Addr)(hx:a.eval x= .pointer (some p))(h1:Gs P ty)(v:Value)(hc:W.cell? p=some v)
 (h:K (a.put o.dst v) w):o.wp P a w K Q:=Ea ty x ho p hx h1 v (hS.1.cell hc) h
theorem Bp(hS:St W w rs)(ty:TypeId)(x:Operand)(ho:o.op= .load ty x)(g off:Nat)(hx:a.eval x= .pointer (some ⟨g,off,none⟩))(h1:Gs P ty)(cs:List Value)(hp:AK (blk g cs) rs rs')
 (v:Value) (hc:cs[off]? =some v) (h:K (a.put o.dst v) w):o.wp P a w K Q:=
 Ea ty x ho _ hx h1 v (by rw [(hS.blk hp).1.cell];simpa using hc) h
theorem Dh(hS:St W w rs)(ty:TypeId)(x:Operand)(ho:o.op= .load ty x)(g off:Nat)(hx:a.eval x= .pointer (some ⟨g,off,none⟩))(h1:Gs P ty)(n:Nat)(l:List Int)(hp:AK (arr g n l) rs rs')
 (hi:off<n) (h:K (a.put o.dst (.int .i64 (AG l off))) w):o.wp P a w K Q:=by
 obtain ⟨hr,hn⟩:=hS.arr hp
 exact Ea ty x ho _ hx h1 _ (hr.cell off (by omega)) h
theorem Fe{e:TypeId}{s n c g k:Nat}{xs:List Value}{v:Value}(hS:St W w rs)(hp:AK (own e s (some ⟨g,0,none⟩) n c xs) rs rs')(hv:xs[k]? =some v):w.cell? ⟨g,k,none⟩=some v:=by
 rcases (hS.own hp).2 with ⟨h1,h2⟩|⟨g',cap,cur,h1,_,hg,_,_,_,htake⟩
 ·cases h1
 cases h1
 rw [cell_of_row w g k cur e _ hg]
 rw [←htake,List.getElem?_take] at hv
 split at hv
 ·simpa using hv
 cases hv
theorem BS{e:TypeId}{s n c:Nat}{a:Option Addr}{xs:List Value}(hS:St W w rs)(hp:AK (own e s a n c xs) rs rs')(hn:0<n):∃g,a=some ⟨g,0,none⟩:=by
 rcases (hS.own hp).2 with ⟨h1,h2⟩|⟨g',cap,cur,h1,_⟩
 ·omega
 cases h1;exact ⟨_,rfl⟩
theorem Di(hS:St W w rs)(ty:TypeId)(x:Operand)(ho:o.op= .load ty x)(g off:Nat)(hx:a.eval x= .pointer (some ⟨g,off,none⟩))(h1:Gs P ty)(e:TypeId)(s n c:Nat)(xs:List Value)(hp:AK (own e s (some ⟨g,0,none⟩) n c xs) rs rs')
 (v:Value) (hv:xs[off]? =some v) (h:K (a.put o.dst v) w):o.wp P a w K Q:=Ea ty x ho _ hx h1 v (Fe hS hp hv) h
theorem CW(ty:TypeId)(x:Operand)(ho:o.op= .load ty x)(g off:Nat)(hx:a.eval x= .pointer (some ⟨g,off,none⟩))(n:Nat)(h1:Cx P ty n)(cs:List Value)(hn:cs.length=n)(hc:w.rangeAt g off cs)
 (h:K (a.put o.dst (.agg cs.toArray)) w):o.wp P a w K Q:=by
 obtain ⟨h2,h3⟩:=h1
 cases hu:P.underlying ty with
 | none=>simp [hu] at h2
 | some d=>
   rw [hu,Option.map_some,Option.some.injEq] at h2
   exact wp_load_mid ty x ho g off hx cs d hc hu h2 (by rw [h3,hn]) h
theorem Oq(hS:St W w rs)(ty:TypeId)(x:Operand)(ho:o.op= .load ty x)(g off:Nat)(hx:a.eval x= .pointer (some ⟨g,off,none⟩))(n:Nat)(h1:Cx P ty n)(cs:List Value)(hc:W.rangeAt g off cs)(hn:cs.length=n)
 (h:K (a.put o.dst (.agg cs.toArray)) w):o.wp P a w K Q:=CW ty x ho g off hx n h1 cs hn (IU hc hS.1) h
theorem F4.range{w:World}{g:Nat}{cs:List Value}(h:F4 w g cs.toArray):w.rangeAt g 0 cs:=fun j v hv=>by rw [Nat.zero_add,h.cell];simpa using hv
theorem PQ(hS:St W w rs)(ty:TypeId)(x:Operand)(ho:o.op= .load ty x)(g:Nat)(hx:a.eval x= .pointer (some ⟨g,0,none⟩))(n:Nat)(h1:Cx P ty n)(cs:List Value)(hp:AK (blk g cs) rs rs')(hn:cs.length=n)
 (h:K (a.put o.dst (.agg cs.toArray)) w):o.wp P a w K Q:=CW ty x ho g 0 hx n h1 cs hn (hS.blk hp).1.range h
theorem MS(hS:St W w rs)(ty:TypeId)(x:Operand)(ho:o.op= .load ty x)(g:Nat)(hx:a.eval x= .pointer (some ⟨g,0,none⟩))(n:Nat)(h1:Cx P ty n)(l:List Int)(hp:AK (arr g n l) rs rs')
 (h:K (a.put o.dst (.agg (iv l))) w):o.wp P a w K Q:=by
 obtain ⟨hr,hn⟩:=hS.arr hp
 exact CW ty x ho g 0 hx n h1 (l.map (Value.int .i64)) (by simpa using hn) hr.range h
theorem Gq(ty:TypeId)(x y:Operand)(ho:o.op= .store ty x y)(p:Addr)(hx:a.eval x= .pointer (some p))(h1:Gs P ty)(v u:Value)(hy:a.eval y=v)(hv:v.oneCell'=true)
 (hc:w.cell? p=some u) (hf:w.frozen? p=false) (hd:o.dst=none) (h:K a (w.setCell p v)):o.wp P a w K Q:=by
 unfold Oper.wp execOp
 simp only [ho,hx,hy,Sem.run_bind,JD w h1 hc hf hv,Result.andThen_ok,Sem.run_pure]
 show K (a.put o.dst undef) _
 rw [hd]
 exact h
theorem Gn(hS:St W w rs)(ty:TypeId)(x y:Operand)(ho:o.op= .store ty x y)(g off:Nat)(hx:a.eval x= .pointer (some ⟨g,off,none⟩))(h1:Gs P ty)(cs cs':List Value)(hp:AK (blk g cs) rs rs')
 (v:Value) (hy:Cv (a.eval y) v) (hv:v.oneCell'=true) (hc:CK v off cs cs') (hd:o.dst=none) (h:∀w',St W w' (blk g cs'::rs')→K a w'):o.wp P a w K Q:=by
 obtain ⟨hl,hcs⟩:=hc.eq
 have hb:=(hS.blk hp).1
 refine Gq ty x y ho _ hx h1 v (cs[off]) hy.eq hv (by rw [hb.cell];simp [hl]) (hb.free off) hd (h _ ?_)
 refine St.change (rs1:=[blk g cs']) (hS.pull hp) fun f1 h1 _ _=>?_
 obtain ⟨rfl,h1⟩:=h1
 refine ⟨[g],⟨[g],[],rfl,⟨rfl,?_⟩,rfl⟩,by simp,fun b hb=> .inl hb,Cm.setCell w ⟨g,off,none⟩ v⟩
 have:=h1.set off v
 rw [hcs]
 simpa using this
theorem Fy(hS:St W w rs)(ty:TypeId)(x y:Operand)(ho:o.op= .store ty x y)(g off:Nat)(hx:a.eval x= .pointer (some ⟨g,off,none⟩))(h1:Gs P ty)(n:Nat)(l:List Int)(hp:AK (arr g n l) rs rs')
 (z:Int) (hy:a.eval y= .int .i64 z) (hi:off<n) (hd:o.dst=none) (h:∀w',St W w' (arr g n (l.set off z)::rs')→K a w'):o.wp P a w K Q:=by
 obtain ⟨hr,hn⟩:=hS.arr hp
 refine Gq ty x y ho _ hx h1 (.int .i64 z) _ hy rfl (hr.cell off (by omega)) (hr.free off) hd (h _ ?_)
 refine St.change (rs1:=[arr g n (l.set off z)]) (hS.pull hp) fun f1 h1 _ _=>?_
 obtain ⟨rfl,h1,h2⟩:=h1
 exact ⟨[g],⟨[g],[],rfl,⟨rfl,h1.set off z,by simpa using h2⟩,rfl⟩,by simp,fun b hb=> .inl hb,Cm.setCell w ⟨g,off,none⟩ _⟩
theorem CH(hS:St W w rs)(ty:TypeId)(x y:Operand)(ho:o.op= .store ty x y)(g:Nat)(hx:a.eval x= .pointer (some ⟨g,0,none⟩))(n:Nat)(h1:Cx P ty n)(cs cs':List Value)(hp:AK (blk g cs) rs rs')
 (hy:a.eval y= .agg cs'.toArray) (hn:cs.length=n) (hn':cs'.length=n) (hv:cs'.all (·.oneCell')=true) (hd:o.dst=none) (h:∀w',St W w' (blk g cs'::rs')→K a w'):o.wp P a w K Q:=by
 obtain ⟨t,hb⟩:=(hS.blk hp).1
 refine wp_store_row ty x y ho g cs'.toArray hx hy t cs.toArray hb (by rw [h1.2];simp [hn']) (by simp [hn,hn']) (by simpa using hv) ?_
 rw [show a.put o.dst undef=a by rw [hd];rfl]
 refine h _ ?_
 refine St.change (rs1:=[blk g cs']) (hS.pull hp) fun f1 h1 _ _=>?_
 obtain ⟨rfl,t,h1⟩:=h1
 exact ⟨[g],⟨[g],[],rfl,⟨rfl,t,setRow_heap w g _ _ t _ h1⟩,rfl⟩,by simp,fun b hb=> .inl hb,Cm.setRow w g _⟩
theorem Gp(hS:St W w rs)(ty:TypeId)(x y:Operand)(ho:o.op= .store ty x y)(g:Nat)(hx:a.eval x= .pointer (some ⟨g,0,none⟩))(n:Nat)(h1:Cx P ty n)(l m:List Int)(hp:AK (arr g n l) rs rs')
 (hy:a.eval y= .agg (iv m)) (hm:A2 m n) (hd:o.dst=none) (h:∀w',St W w' (arr g n m::rs')→K a w'):o.wp P a w K Q:=by
 obtain ⟨⟨t,hb⟩,hn⟩:=hS.arr hp
 have hm':m.length=n:=hm
 refine wp_store_row ty x y ho g (iv m) hx hy t (iv l) hb (by rw [h1.2,Cc,hm']) (by rw [Cc,Cc,hn,hm']) (G8 m) ?_
 rw [show a.put o.dst undef=a by rw [hd];rfl]
 refine h _ ?_
 refine St.change (rs1:=[arr g n m]) (hS.pull hp) fun f1 h1 _ _=>?_
 obtain ⟨rfl,⟨t,h1⟩,h2⟩:=h1
 exact ⟨[g],⟨[g],[],rfl,⟨rfl,⟨t,setRow_heap w g _ _ t _ h1⟩,hm⟩,rfl⟩,by simp,fun b hb=> .inl hb,Cm.setRow w g _⟩
inductive AX(a:Act)(s:Nat):Nat→List (Nat×Operand)→List Value→List Value→Prop
 | nil {k:Nat}:AX a s k [] [] []
 | one {k:Nat} {x:Operand} {v:Value} {ps:List (Nat×Operand)} {vs cs:List Value} (h:Cv (a.eval x) v) (h1:v.oneCell'=true) (hs:s=1) (t:AX a s (k+1) ps vs cs):AX a s k ((k,x)::ps) (v::vs) (v::cs)
 | agg {k:Nat} {x:Operand} {l:List Value} {ps:List (Nat×Operand)} {vs cs:List Value} (h:a.eval x= .agg l.toArray) (hs:l.length=s) (t:AX a s (k+1) ps vs cs):AX a s k ((k,x)::ps) (.agg l.toArray::vs) (l++cs)
theorem FP(s:Nat):∀(vs:List Value)(k:Nat)(done zs:List Value),done.length=k*s→zs.length=vs.length*s→(∀v∈vs,v.cells.size=s)→
 Instr.fill (fun i=>some (i*s,s)) (done++zs).toArray ((vs.zipIdx k).map fun x=>(x.2,x.1))=some (done++vs.flatMap (·.cells.toList)).toArray:=by
 intro vs
 induction vs with
 | nil=>intro k done zs _ hz _;simp at hz;simp [Instr.fill,hz]
 | cons v vs ih=>
   intro k done zs hd hz hv
   have hvs:=hv v (by simp)
   have hlen:zs.length=s+vs.length*s:=by rw [hz,List.length_cons,Nat.add_mul,Nat.one_mul,Nat.add_comm]
   simp only [List.zipIdx_cons,List.map_cons,Instr.fill,hvs,ne_eq,not_true_eq_false]
   rw [if_neg (by simp [hd,hlen])]
   have key:∀(us:List Value)(j:Nat)(d z:List Value),d.length=k*s+j→us.length≤z.length→
    List.foldl (fun cs (x:Value×Nat)=>cs.setIfInBounds (k*s+x.2) x.1) (d++z).toArray (us.zipIdx j)=(d++us++z.drop us.length).toArray:=by
    intro us
    induction us with
    | nil=>intro j d z _ _;simp
    | cons u us ih2=>
      intro j d z hd2 hz2
      cases z with
      | nil=>simp at hz2
      | cons y z=>
        simp only [List.zipIdx_cons,List.foldl_cons]
        have e1:(d++y::z).toArray.setIfInBounds (k*s+j) u=((d++[u])++z).toArray:=by
         rw [List.setIfInBounds_toArray,List.set_append_right _ _ (by omega),hd2,Nat.sub_self,List.set_cons_zero,List.append_assoc]
         rfl
        rw [e1,ih2 (j+1) (d++[u]) z (by simp [hd2];omega) (by simpa using hz2)]
        simp
   have e2:v.cells.zipIdx.foldl (fun cs (x:Value×Nat)=>cs.setIfInBounds (k*s+x.2) x.1) (done++zs).toArray=((done++v.cells.toList)++zs.drop s).toArray:=by
    have:=key v.cells.toList 0 done zs (by simpa using hd) (by simp [hvs,hlen])
    rw [←Array.foldl_toList]
    simpa [hvs] using this
   rw [show (Array.foldl (fun cs (x:Value×Nat)=>cs.setIfInBounds (k*s+x.2) x.1) (done++zs).toArray v.cells.zipIdx)=((done++v.cells.toList)++zs.drop s).toArray from e2]
   rw [ih (k+1) (done++v.cells.toList) (zs.drop s) (by simp [hd,hvs,Nat.add_mul]) (by rw [List.length_drop,hlen];omega) (fun u hu=>hv u (by simp [hu]))]
   simp
theorem AX.vals{a:Act}{s:Nat}:∀{k:Nat} {ps:List (Nat×Operand)} {vs cs:List Value},AX a s k ps vs cs→
 (ps.map fun (i,x)=>(i,a.eval x))=((vs.zipIdx k).map fun x=>(x.2,x.1))∧ps.length=vs.length∧(vs.flatMap (·.cells.toList))=cs∧∀v∈vs,v.cells.size=s:=by
 intro k ps vs cs h
 induction h with
 | nil=>exact ⟨rfl,rfl,rfl,fun v hv=>by cases hv⟩
 | @one k x v ps vs cs h h1 hs t ih=>
   have hc:v.cells=#[v]:=by cases v<;>first|rfl|cases h1
   refine ⟨by simp only [List.map_cons,List.zipIdx_cons,ih.1,h.eq],by simp [ih.2.1],by rw [List.flatMap_cons,ih.2.2.1,hc];rfl,fun u hu=>?_⟩
   rcases List.mem_cons.1 hu with rfl|hu
   ·rw [hc,hs];rfl
   exact ih.2.2.2 u hu
 | @agg k x l ps vs cs h hs t ih=>
   refine ⟨by simp only [List.map_cons,List.zipIdx_cons,ih.1,h],by simp [ih.2.1],by rw [List.flatMap_cons,ih.2.2.1];rfl,fun u hu=>?_⟩
   rcases List.mem_cons.1 hu with rfl|hu
   ·simpa [Value.cells] using hs
   exact ih.2.2.2 u hu
theorem Aj(hS:St W w rs)(t:TypeId)(n:Nat)(ps:List (Nat×Operand))(ho:o.op= .buildSlice t n ps.toArray)(e:TypeId)(s b:Nat)(el:Bq P t e s b)(vs cs:List Value)(hvs:AX a s 0 ps vs cs)(hn:vs.length=n)(hn0:0<n)(hns:n*s≤2^24)
 (h:∀g w',St W w' (blk g cs::rs)→K (a.put o.dst (.slice (some ⟨g,0,none⟩) n n)) w'):o.wp P a w K Q:=by
 obtain ⟨ht,⟨i,z,hi,hz,rfl,hb,hzs⟩,hp⟩:=el
 obtain ⟨h1,h2,hcs,hsz⟩:=hvs.vals
 have hns':0<n*i.size:=Nat.mul_pos hn0 hp
 refine Go.wp_buildSlice t e n ps.toArray ho (cs.toArray) i z ht hi hz (by omega) (by omega) ?_ (h _ _ (hS.alloc cs e))
 have h3:=FP i.size vs 0 [] (((List.range (n*i.size)).map (fun j=>z.cells[j%z.cells.size]!))) (by simp) (by simp [hn]) hsz
 simp only [List.nil_append] at h3
 rw [←hcs]
 have e1:(Array.map (fun x:Nat×Operand=>(x.1,a.eval x.2)) ps.toArray).toList=(vs.zipIdx 0).map fun x=>(x.2,x.1):=by
  rw [←h1];simp
 rw [e1]
 rw [←h3]
 congr 1
 apply Array.ext_getElem?
 intro j
 simp only [Array.getElem?_map,Array.getElem?_range,List.getElem?_toArray,List.getElem?_map]
 by_cases hj:j<n*i.size
 ·simp [hj]
 simp [hj]
theorem Am(hS:St W w rs)(s x:Operand)(t:TypeId)(ho:o.op= .call {callee:= .builtin .append,args:=#[s,x],argTypes:=#[t,t]})(e:TypeId)(sz b:Nat)(el:Bq P t e sz b)
 (ad:Option Addr) (n c:Nat) (xs:List Value) (hs:a.eval s= .slice ad n c) (hp:AK (own e sz ad n c xs) rs rs') (v:Value) (hx:a.eval x=v) (m:Nat) (news:List Value) (hm:Sl w sz v m news) (h1:∀u∈news,u.oneCell'=true)
 (h63:n+m≤maxLen) (hb:(n+m)*b≤140737488355328)
 (h:∀ad' c' w',St W w' (own e sz ad' (n+m) c' (xs++news)::rs')→K (a.put o.dst (.slice ad' (n+m) c')) w'):o.wp P a w K Q:=by
 obtain ⟨ht,⟨i,z,hi,hz,hsz,hby,hzs⟩,hpos⟩:=el
 have hown:=hS.own hp
 have fin:∀v' w',w'.ownsRow 0 e sz v' (n+m) (xs++news)→w.grownBy w' (Value.slice ad n c).ownBlock→(v'.ownBlock=(Value.slice ad n c).ownBlock∨v'.ownBlock=some w.heap.size)→∃ad' c',v'= .slice ad' (n+m) c'∧St W w' (own e sz ad' (n+m) c' (xs++news)::rs'):=by
  intro v' w' ho' hg hat
  obtain ⟨ad',c',rfl⟩:∃ad' c',v'= .slice ad' (n+m) c':=by
   rcases ho'.2 with ⟨h1,h2⟩|⟨g,cap,cur,h1,_⟩
   ·exact ⟨none,0,by rw [h2];exact h1⟩
   exact ⟨_,_,h1⟩
  refine ⟨ad',c',rfl,?_⟩
  refine St.change (rs1:=[own e sz ad' (n+m) c' (xs++news)]) (hS.pull hp) fun f1 h1 hf1 hn1=>?_
  obtain ⟨rfl,h1⟩:=h1
  refine ⟨(Value.slice ad' (n+m) c').ownBlock.toList,⟨_,[],by simp,⟨rfl,ho'⟩,rfl⟩,?_,fun k hk=>?_,Cm.grown hg⟩
  ·cases (Value.slice ad' (n+m) c').ownBlock<;>simp
  rcases hat with h|h
  ·left;rw [←h];exact hk
  right;rw [h] at hk;simp at hk;omega
 obtain ⟨hl,aa,cc,rfl,hmc,hcm,hor⟩:=hm
 rcases hor with rfl|⟨bb,off,rfl,hcells⟩
 ·have hnews:news=[]:=by simpa using hl
  subst hnews
  cases aa with
  | none=>
    obtain ⟨v',hr,hw⟩:∃v',(Builtin.append_ #[t,t] o.type #[.slice ad n c, .slice none 0 cc]).run P w= .ok v' w∧v'= .slice ad n c:=by
     rcases hown.2 with ⟨h1,h2⟩|⟨g,cap,cur,h1,_,_,hnc,_⟩
     ·cases h1
      refine ⟨_,?_,rfl⟩
      simp [Builtin.append_,run_underlying ht,sizeOf,typeInfo,hi,Builtin.lenOf,Builtin.firstCells]
     cases h1
     refine ⟨_,?_,rfl⟩
     simp [Builtin.append_,run_underlying ht,sizeOf,typeInfo,hi,Builtin.lenOf,hnc,Builtin.firstCells,storeCells]
    subst hw
    obtain ⟨ad',c',he,hst⟩:=fin (.slice ad n c) w (by simpa using hown) ⟨rfl,rfl,rfl,Nat.le_refl _,fun _ _ _=>rfl⟩ (.inl rfl)
    have hk:=h ad' c' w hst
    unfold Oper.wp execOp
    simp only [ho,resolve,invoke,builtin,Sem.run_bind,Sem.run_pure,Result.andThen_ok,List.map_toArray,List.map_cons,List.map_nil,hs,hx,hr]
    rw [he]
    exact hk
  | some a0=>
    obtain ⟨v',w',hr,h2,h3,h4,h5⟩:=run_append_own_at (P:=P) w 0 t o.type e i z sz b ht hi hz hsz hby hzs hpos (.slice ad n c) n xs hown a0 0 cc [] (by simp) (by simp) (by simp) h63 hb (Nat.zero_le _)
    obtain ⟨ad',c',rfl,hst⟩:=fin v' w' h2 h3 h5
    have hk:=h ad' c' w' hst
    unfold Oper.wp execOp
    simp only [ho,resolve,invoke,builtin,Sem.run_bind,Sem.run_pure,Result.andThen_ok,List.map_toArray,List.map_cons,List.map_nil,hs,hx,hr]
    exact hk
 obtain ⟨v',w',hr,h2,h3,h4,h5⟩:=run_append_own_at (P:=P) w 0 t o.type e i z sz b ht hi hz hsz hby hzs hpos (.slice ad n c) n xs hown ⟨bb,off,none⟩ m cc news hl (fun j u hu=>by
  have hj:j<m*sz:=by rw [←hl];exact (List.getElem?_eq_some_iff.1 hu).1
  rw [Addr.add_mid,hcells j hj,hu]) h1 h63 hb (Nat.zero_le _)
 obtain ⟨ad',c',rfl,hst⟩:=fin v' w' h2 h3 h5
 have hk:=h ad' c' w' hst
 unfold Oper.wp execOp
 simp only [ho,resolve,invoke,builtin,Sem.run_bind,Sem.run_pure,Result.andThen_ok,List.map_toArray,List.map_cons,List.map_nil,hs,hx,hr]
 exact hk
end
section
variable{P:Program}{w:World}{Q:Exit→Act→World→Prop}{K:Act→World→Prop}{o:Oper}{a:Act}
theorem BN{f:FuncId}{xs:List Operand}{ats:Array TypeId}(ho:o.op= .call {callee:= .value (.func f),args:=xs.toArray,argTypes:=ats})(hcall:∀(args:Array Value)(w:World),(callFunc f args).run P w= .ok (.enter f args) w)
 {R:Ending→World→Prop} (hc:Calls P f (xs.map a.eval).toArray w R) (h:∀e w',R e w'→∃v,e= .returned v∧K (a.put o.dst v) w'):o.wp P a w K Q:=by
 have e1:execOp a.eval o=callFunc f (xs.map a.eval).toArray:=by
  unfold execOp
  rw [ho]
  have e2:(#[]++(xs.toArray).map a.eval++ #[]:Array Value)=(xs.map a.eval).toArray:=by simp
  rw [←e2]
  rfl
 unfold Oper.wp
 rw [e1,hcall,Oper.upon_enter]
 refine hc.mono fun e w' hR=>?_
 obtain ⟨v,rfl,hk⟩:=h e w' hR
 exact hk
end
def LH(P:Program)(f:FuncId)(args:Array Value)(w:World)(K:Value→World→Prop):Prop:=∃R:Ending→World→Prop,Calls P f args w R∧∀e w',R e w'→∃v,e= .returned v∧K v w'
theorem Ay{P:Program}{w:World}{Q:Exit→Act→World→Prop}{a:Act}{ops:Array Oper}{rest:List Oper}{f:FuncId}{d:Option Tmp}{xs:List Operand}{ats:Array TypeId}{ty:TypeId}{pos:String}{af:Array Edge}{g:Option (Nat×Bool)}
 (hcall:∀(args:Array Value)(w:World),(callFunc f args).run P w= .ok (.enter f args) w) (hw:Region.wanted ⟨d, .call ⟨.value (.func f),xs.toArray,ats⟩,ty,pos,af,g⟩ (yielded ops a.tmps)=true)
 (h:LH P f (xs.map a.eval).toArray w fun v w'=>wpList P ops Q rest (a.put d v) w'):wpList P ops Q (⟨d, .call ⟨.value (.func f),xs.toArray,ats⟩,ty,pos,af,g⟩::rest) a w:=by
 obtain ⟨R,hc,hR⟩:=h
 exact Ot hw (BN rfl hcall hc hR)
theorem St.slBlk{W w:World}{rs rs':List Af}{g n s:Nat}{cs:List Value}(h:St W w rs)(p:AK (Go.Proofs.YtngojkompmcceaaGreatDoor.blk g cs) rs rs')(hl:cs.length=n*s)(hn:n≤maxLen):Sl w s (.slice (some ⟨g,0,none⟩) n n) n cs:=
 ⟨hl,_,_,rfl,Nat.le_refl _,hn, .inr ⟨g,0,rfl,fun k hk=>by rw [Nat.zero_add,(h.blk p).1.cell];simp⟩⟩
section
variable{P:Program}{ops:Array Oper}{Q:Exit→Act→World→Prop}{md:Region.Mode}{D:List Nat}{S T:World→Prop}
def DN(ops:Array Oper)(o:Oper)(a b:Act):Prop:=
 execOp b.eval o=execOp a.eval o∧Region.wanted o (yielded ops b.tmps)=Region.wanted o (yielded ops a.tmps)∧b.tmps.size=a.tmps.size
theorem DN.refl(o:Oper)(a:Act):DN ops o a a:=⟨rfl,rfl,rfl⟩
theorem DN.trans{o:Oper}{a b c:Act}(h:DN ops o a b)(k:DN ops o b c):DN ops o a c:=⟨k.1.trans h.1,k.2.1.trans h.2.1,k.2.2.trans h.2.2⟩
theorem DN.put(o:Oper)(hs:∀cs b,o.op≠ .select cs b)(a:Act)(dst:Option Tmp)(u:Value)(h:∀d,dst=some d→d∉o.looksAt ops):DN ops o a (a.put dst u):=
 ⟨execOp_put o hs a dst u h,wanted_put o a dst u h,by cases dst<;>simp [Act.put]⟩
theorem Kv{j:Nat}{oi oj:Oper}{v:Value}(hj:ops[j]? =some oj)(hap:oi.apart ops oj=true)(hsi:∀cs b,oi.op≠ .select cs b)(hsj:∀cs b,oj.op≠ .select cs b)
 (hQ:∀c a w,Q (.panic c) (a.put oi.dst v) w→Q (.panic c) a w) {K:Act→World→Prop} {a:Act} {w:World} (h:wpOp P ops Q j K (a.put oi.dst v) w):
 wpOp P ops Q j (fun a' w'=>DN ops oi a a'∧K (a'.put oi.dst v) w') a w:=by
 obtain ⟨hd1,hd2,hd3⟩:=Oper.apart_spec hap
 have back:∀(b:Act) u,(b.put oj.dst u).put oi.dst v=(b.put oi.dst v).put oj.dst u:=fun b u=>(Act.put_comm b v u hd2).symm
 have fin:∀u w',K ((a.put oi.dst v).put oj.dst u) w'→DN ops oi a (a.put oj.dst u)∧K ((a.put oj.dst u).put oi.dst v) w':=fun u w' hk=>⟨DN.put oi hsi a oj.dst u hd3,by rw [back];exact hk⟩
 unfold wpOp at h⊢
 rw [hj] at h⊢
 dsimp only at h⊢
 rw [wanted_put oj a oi.dst v hd1] at h
 by_cases hw:Region.wanted oj (yielded ops a.tmps)=true
 ·rw [if_pos hw] at h⊢
  rcases h with h|⟨h1,h2⟩
  ·left
   unfold Oper.wp at h⊢
   rw [execOp_put oj hsj a oi.dst v hd1] at h
   generalize (execOp a.eval oj).run P w=r at h⊢
   cases r with
   | halt x w'=>cases x<;>simp only [Oper.upon] at h⊢ <;>exact hQ _ _ _ h
   | ok n w'=>
     cases n<;>simp only [Oper.upon] at h⊢
     case value u=>exact fin u w' h
     case skip=>exact fin _ w' h
     case defer d=>
      refine ⟨DN.trans (b:={a with defers:=d::a.defers}) ⟨rfl,rfl,rfl⟩ (DN.put oi hsi _ oj.dst _ hd3),?_⟩
      rw [back,←Act.put_defers]
      exact h
     case enter f args=>
      refine Calls.mono h fun e w'' he=>?_
      cases e with
      | returned u=>exact fin u w'' he
      | panicked c=>exact hQ _ _ _ he
      | outgrown=>exact he
     case row row args=>exact Rows.mono h fun u w'' he=>fin u w'' he
  right
  unfold Oper.asks at h1⊢
  rw [execOp_put oj hsj a oi.dst v hd1] at h1
  exact ⟨h1,h2⟩
 rw [if_neg hw] at h⊢
 exact fin _ w h
def AH(P:Program)(md:Region.Mode)(ops:Array Oper)(Q:Exit→Act→World→Prop)(D:List Nat)(S:World→Prop):Nat→Array Bool→Act→World→Prop
 | 0,listed,a,w=>Region.ready md ops listed=[]∧Q .normal a w
 | fuel+1,listed,a,w=>(Region.ready md ops listed=[]→Q .normal a w)∧
   ∀i∈Region.ready md ops listed,wpOp P ops Q i (fun a' w'=>(i∉D→S w→S w')∧AH P md ops Q D S fuel (listed.setIfInBounds i true) a' w') a w
theorem Fu:∀(fuel:Nat)(listed:Array Bool)(a:Act)(w:World),AH P md ops Q D S fuel listed a w→wpAny P md ops Q fuel listed a w
 | 0,_,_,_,h=>h
 | fuel+1,_,_,_,h=>⟨h.1,fun i hi=>wpOp_mono (fun a' w' k=>Fu fuel _ a' w' k.2) (h.2 i hi)⟩
def LK(md:Region.Mode)(ops:Array Oper)(listed:Array Bool)(i:Nat)(E:List Nat):Prop:=
 ∀j∈E,listed.getD j true=false∧∃oj,ops[j]? =some oj∧∃e∈oj.after,Region.binds md e=true∧(e.on∈E∨e.on=i)
def Hp(md:Region.Mode)(ops:Array Oper)(listed:Array Bool)(i:Nat)(E D:List Nat):Bool:=
 D.all (fun j=>E.contains j)&&E.all fun j=>!listed.getD j true&&match ops[j]? with
  | none=>false
  | some oj=>oj.after.any fun e=>Region.binds md e&&(E.contains e.on||e.on==i)
theorem Ij{listed:Array Bool}{i:Nat}{E:List Nat}(h:Hp md ops listed i E D=true):(∀j∈D,j∈E)∧LK md ops listed i E:=by
 unfold Hp at h
 simp only [Bool.and_eq_true,List.all_eq_true] at h
 refine ⟨fun j hj=>by simpa using h.1 j hj,fun j hj=>?_⟩
 obtain ⟨h1,h2⟩:=h.2 j hj
 refine ⟨by simpa using h1,?_⟩
 cases ho:ops[j]? with
 | none=>rw [ho] at h2;cases h2
 | some oj=>
   rw [ho] at h2
   obtain ⟨e,he,hb⟩:=Array.any_eq_true'.1 h2
   simp only [Bool.and_eq_true,Bool.or_eq_true,beq_iff_eq] at hb
   exact ⟨oj,rfl,e,he,hb.1,hb.2.imp (fun h=>by simpa using h) id⟩
theorem Cj{listed:Array Bool}{k:Nat}(h:listed.getD k true=false):listed.getD k false=false:=by
 rcases Nat.lt_or_ge k listed.size with h'|h'
 ·simp [h'] at h⊢;exact h
 simp [Array.getElem?_eq_none h'] at h
theorem EY{i:Nat}{oi:Oper}{v:Value}{a0:Act}(hi:ops[i]? =some oi)(hsel:∀(j:Nat)(o:Oper) cs b,ops[j]? =some o→o.op≠ .select cs b)
 (hQ:∀c a w,Q (.panic c) (a.put oi.dst v) w→Q (.panic c) a w) (hfr:∀w,T w→wpList P ops (FreeOne (fun w'=>w'=w) (a0.put oi.dst v)) [oi] a0 w) (E:List Nat)
 (hcase:(∀w,T w)∨((∀w,S w→T w)∧∀j∈D,j∈E)):
 ∀(fuel:Nat)(listed:Array Bool)(a:Act)(w:World),DN ops oi a0 a→
  (∀j oj,ops[j]? =some oj→j≠i→listed.getD j true=false→(∀e∈oj.after,Region.binds md e=true→e.on≠i)→oi.apart ops oj=true)→
  i∈Region.ready md ops listed→((∀w,T w)∨(S w∧LK md ops listed i E))→
  AH P md ops Q D S fuel (listed.setIfInBounds i true) (a.put oi.dst v) w→AH P md ops Q D S (fuel+1) listed a w:=by
 have now:∀{a:Act} {w:World} {K:Act→World→Prop},DN ops oi a0 a→T w→K (a.put oi.dst v) w→wpOp P ops Q i K a w:=fun hs hT hk=>
  free_op (I:=fun w'=>w'=_) hi (hfr _ hT) hs.1 hs.2.1 hs.2.2 (fun w' hw'=>by rw [hw'];exact hk)
 have tn:∀{listed:Array Bool} {w:World},((∀w,T w)∨(S w∧LK md ops listed i E))→T w:=fun {listed w} h=>by
  rcases h with h|h
  ·exact h w
  rcases hcase with k|k
  ·exact k w
  exact k.1 w h.1
 intro fuel
 induction fuel with
 | zero=>
   intro listed a w hs _ hr hst H
   refine ⟨fun h=>(by rw [h] at hr;cases hr),fun j hj=>?_⟩
   by_cases hji:j=i
   ·subst hji;exact now hs (tn hst) ⟨fun _ h=>h,H⟩
   have:=ready_mono hj hji
   rw [H.1] at this
   cases this
 | succ fuel ih=>
   intro listed a w hs hfree hr hst H
   refine ⟨fun h=>(by rw [h] at hr;cases hr),fun j hj=>?_⟩
   by_cases hji:j=i
   ·subst hji;exact now hs (tn hst) ⟨fun _ h=>h,H⟩
   have h1:=H.2 j (ready_mono hj hji)
   obtain ⟨hjun,oj,hoj,hall⟩:=mem_ready.1 hj
   have hiun:=(mem_ready.1 hr).1
   have hnot:∀e∈oj.after,Region.binds md e=true→e.on≠i:=fun e he hb heq=>by
    have k1:=hall e he hb
    rw [heq,Cj hiun] at k1
    cases k1
   have h2:=Kv hoj (hfree j oj hoj hji hjun hnot) (fun cs b=>hsel i oi cs b hi) (fun cs b=>hsel j oj cs b hoj) hQ h1
   have hfree':∀k ok,ops[k]? =some ok→k≠i→(listed.setIfInBounds j true).getD k true=false→(∀e∈ok.after,Region.binds md e=true→e.on≠i)→oi.apart ops ok=true:=fun k ok hk hki hun hno=>by
    refine hfree k ok hk hki ?_ hno
    by_cases hjk:j=k
    ·subst hjk;exact hjun
    rw [getD_set_ne true hjk] at hun;exact hun
   refine wpOp_mono (fun a' w' h3=>⟨h3.2.1,ih (listed.setIfInBounds j true) a' w' (hs.trans h3.1) hfree' (ready_mono hr (Ne.symm hji)) ?_ ?_⟩) h2
   ·rcases hst with h|⟨hSw,hwt⟩
    ·exact .inl h
    rcases hcase with h|⟨_,hD⟩
    ·exact .inl h
    have hjE:j∉E:=fun hm=>by
     obtain ⟨_,oj',hoj',e,he,hb,hon⟩:=hwt j hm
     rw [hoj] at hoj'
     cases hoj'
     have k1:=hall e he hb
     rcases hon with hon|hon
     ·rw [Cj (hwt e.on hon).1] at k1;cases k1
     rw [hon,Cj hiun] at k1;cases k1
    refine .inr ⟨h3.2.1 (fun hm=>hjE (hD j hm)) hSw,fun k hk=>⟨?_,(hwt k hk).2⟩⟩
    rw [getD_set_ne true (fun e=>hjE (by rw [e];exact hk))]
    exact (hwt k hk).1
   rw [Array.setIfInBounds_comm _ _ hji]
   exact h3.2.2
theorem IJ{oi:Oper}{a a1:Act}{w:World}(hfr:wpList P ops (FreeOne (fun w'=>w'=w) a1) [oi] a w)(hd:a1.defers=a.defers):∃v,a1=a.put oi.dst v:=by
 rcases free_put hfr with h1|⟨d,h1⟩
 ·exact h1
 exfalso
 rw [h1] at hd
 cases hdd:oi.dst<;>simp [hdd,Act.put] at hd
inductive Dr(o:Oper):Nat→List Oper→Prop
 | head {l:List Oper}:Dr o 0 (o::l)
 | tail {i:Nat} {x:Oper} {l:List Oper} (h:Dr o i l):Dr o (i+1) (x::l)
theorem Dr.get{o:Oper}{i:Nat}{l:List Oper}(h:Dr o i l):l.toArray[i]? =some o:=by
 rw [List.getElem?_toArray]
 induction h with
 | head=>rfl
 | tail h ih=>rw [List.getElem?_cons_succ];exact ih
theorem Ge(i:Nat){l:List Oper}{oi:Oper}{a1:Act}{fuel:Nat}{listed:Array Bool}{a:Act}{w:World}(hi:Dr oi i l)(hs:Region.noSelect l.toArray=true)(hf:Region.free md l.toArray listed i=true)
 (hr:(Region.ready md l.toArray listed).contains i=true) (hQ:∀v c a w,Q (.panic c) (a.put oi.dst v) w→Q (.panic c) a w) (hfr:∀w,wpList P l.toArray (FreeOne (fun w'=>w'=w) a1) [oi] a w) (hd:a1.defers=a.defers)
 (h:AH P md l.toArray Q D S fuel (listed.setIfInBounds i true) a1 w):AH P md l.toArray Q D S (fuel+1) listed a w:=by
 obtain ⟨v,rfl⟩:=IJ (hfr w) hd
 exact EY (T:=fun _=>True) hi.get (Region.noSelect_spec hs) (hQ v) (fun w _=>hfr w) [] (.inl fun _=>trivial) fuel listed a w (DN.refl oi a) (Region.free_spec hi.get hf) (by simpa using hr) (.inl fun _=>trivial) h
theorem N7(i:Nat){l:List Oper}{oi:Oper}{a1:Act}{fuel:Nat}{listed:Array Bool}{a:Act}{w:World}(hi:Dr oi i l)(hs:Region.noSelect l.toArray=true)(hf:Region.free md l.toArray listed i=true)
 (hr:(Region.ready md l.toArray listed).contains i=true) (hQ:∀v c a w,Q (.panic c) (a.put oi.dst v) w→Q (.panic c) a w) (E:List Nat) (hE:Hp md l.toArray listed i E D=true) (hSw:S w)
 (hfr:∀w,S w→wpList P l.toArray (FreeOne (fun w'=>w'=w) a1) [oi] a w) (hd:a1.defers=a.defers)
 (h:AH P md l.toArray Q D S fuel (listed.setIfInBounds i true) a1 w):AH P md l.toArray Q D S (fuel+1) listed a w:=by
 obtain ⟨v,rfl⟩:=IJ (hfr w hSw) hd
 exact EY (T:=S) hi.get (Region.noSelect_spec hs) (hQ v) hfr E (.inr ⟨fun _ h=>h,(Ij hE).1⟩) fuel listed a w (DN.refl oi a) (Region.free_spec hi.get hf) (by simpa using hr) (.inr ⟨hSw,(Ij hE).2⟩) h
inductive J0(P:Program)(l:List Oper)(Q:Exit→Act→World→Prop)(K:Nat→Act→World→Prop)(a:Act)(w:World):List Nat→Prop
 | nil:J0 P l Q K a w []
 | cons {i:Nat} {o:Oper} {rs:List Nat} (hi:Dr o i l) (hw:Region.wanted o (yielded l.toArray a.tmps)=true) (h:o.wp P a w (K i) Q) (t:J0 P l Q K a w rs):J0 P l Q K a w (i::rs)
theorem J0.all{l:List Oper}{K:Nat→Act→World→Prop}{a:Act}{w:World}:∀{rs:List Nat},J0 P l Q K a w rs→∀i∈rs,wpOp P l.toArray Q i (K i) a w:=by
 intro rs h
 induction h with
 | nil=>intro i hi;cases hi
 | cons hi hw h t ih=>
   intro j hj
   rcases List.mem_cons.1 hj with rfl|hj
   ·unfold wpOp
    rw [hi.get]
    dsimp only
    rw [if_pos hw]
    exact .inl h
   exact ih j hj
theorem Dx(rs:List Nat){l:List Oper}{fuel:Nat}{listed:Array Bool}{a:Act}{w:World}(hr:Region.ready md l.toArray listed=rs)(hne:rs≠[])
 (h:J0 P l Q (fun i a' w'=>(i∉D→S w→S w')∧AH P md l.toArray Q D S fuel (listed.setIfInBounds i true) a' w') a w rs):AH P md l.toArray Q D S (fuel+1) listed a w:=
 ⟨fun h0=>absurd (hr.symm.trans h0) hne,by rw [hr];exact h.all⟩
theorem NA(i:Nat){l:List Oper}{o:Oper}{fuel:Nat}{listed:Array Bool}{a:Act}{w:World}(hi:Dr o i l)(hw:Region.wanted o (yielded l.toArray a.tmps)=true)(hr:Region.ready md l.toArray listed=[i])
 (h:o.wp P a w (fun a' w'=>(i∉D→S w→S w')∧AH P md l.toArray Q D S fuel (listed.setIfInBounds i true) a' w') Q):AH P md l.toArray Q D S (fuel+1) listed a w:=
 Dx [i] hr (by simp) (.cons hi hw h .nil)
theorem AL{listed:Array Bool}{a:Act}{w:World}(hr:Region.ready md ops listed=[])(h:Q .normal a w):∀fuel,AH P md ops Q D S fuel listed a w
 | 0=>⟨hr,h⟩
 | _+1=>⟨fun _=>h,by rw [hr];simp⟩
theorem O7{id:Nat}{a:Act}{w:World}(D:List Nat)(S:World→Prop)(hm:P.follows .mixedOrders=true)
 (h:AH P .any ops Q D S ops.size (Array.replicate ops.size false) a w.drew):(Code.region id ops true).wp P Q a w:=
 wp_region_any hm (Fu _ _ _ _ h)
theorem AT{id:Nat}{l:List Oper}{a:Act}{w:World}(D:List Nat)(S:World→Prop)(hm:P.follows .mixedOrders=true)
 (h:AH P .any l.toArray Q D S l.length (List.replicate l.length false).toArray a w.drew):(Code.region id l.toArray true).wp P Q a w:=
 O7 D S hm (by simpa using h)
end
end Go.Proofs.YtngojkompmcceaaGreatDoor
namespace Go.Proofs.YtngojkompmcceaaGreatDoor
set_option linter.unusedVariables false
set_option maxRecDepth 100000
set_option maxHeartbeats 8000000
def Nz:List Nat:=[1,2,3,4,5,6,9,10,11,12,15,16,17,20,21,22,23,25,26,27,28,29,30,31,37,38,39,40,44,45,46,48,49,52,53,55,56,57,58,59,60,61,63,64,65,66,67,68,70,73,74,75,77,79,87,89,90,92,93,94,95,97,98,99,100,101,102,103,104,105,106,107,110,111,112,113,114,115,116,118,121,123,124,125,126,127,128,130,132,135,136,137,138,139,141,142,143,144,145,146,148,149,152,153,154,155,156,157,158,159,160,161,166,167,168,174,175,176,177,178,179]
def N0:List (Nat×Nat):=[(7,4),(8,4),(13,2),(14,2),(18,1),(19,1),(32,64),(33,64),(34,128),(35,128),(41,2),(42,2),(50,2),(51,2),(71,3),(72,3),(80,4),(81,12),(82,3),(83,16),(84,17),(85,17),(91,24),(108,2),(109,2),(119,3),(120,3),(129,20),(131,65),(133,2),(134,2),(140,9),(150,3),(151,3),(162,1),(163,1),(164,32),(165,64),(169,4),(170,4),(180,11),(181,11)]
theorem NX:(Nz.all fun t=>decide ((Tryz.prog.underlying t).map TypeDesc.isRow=some false)&&decide ((Tryz.prog.info? t).map (·.size)=some 1))=true:=by kernel_rfl
theorem Nd:(N0.all fun x=>decide ((Tryz.prog.underlying x.1).map TypeDesc.isRow=some true)&&decide ((Tryz.prog.info? x.1).map (·.size)=some x.2))=true:=by kernel_rfl
theorem Ac{t:TypeId}(h:Nz.contains t=true):Gs Tryz.prog t:=by
 have h1:=List.all_eq_true.1 NX t (by simpa using h)
 simp only [Bool.and_eq_true,decide_eq_true_eq] at h1
 exact h1
theorem Ad{t n:Nat}(h:N0.contains (t,n)=true):Cx Tryz.prog t n:=by
 have h1:=List.all_eq_true.1 Nd (t,n) (by simpa using h)
 simp only [Bool.and_eq_true,decide_eq_true_eq] at h1
 exact h1
theorem QJ(w:World):(zeroValue 33).run Tryz.prog w= .ok (.agg (iv (List.replicate 64 0))) w:=Tryz.zeroValue33 w
theorem IA:Bq Tryz.prog 22 9 1 16:=Bq.mk' (.string ByteArray.empty) Tryz.underlying22 (by kernel_rfl) rfl (by decide)
theorem Ld:Bq Tryz.prog 46 3 1 8:=Bq.mk' (.int .i64 0) Tryz.underlying46 (by kernel_rfl) rfl (by decide)
theorem OL:Bq Tryz.prog 68 72 3 24:=Bq.mk' (.agg #[.int .i64 0, .int .i64 0, .int .i64 0]) Tryz.underlying68 (by kernel_rfl) rfl (by decide)
theorem Eu:Bq Tryz.prog 110 109 2 32:=Bq.mk' (.agg #[.int .i64 0, .slice none 0 0]) Tryz.underlying110 (by kernel_rfl) rfl (by decide)
theorem Nv:Bq Tryz.prog 116 120 3 24:=Bq.mk' (.agg #[.int .i64 0, .int .i64 0, .int .i64 0]) Tryz.underlying116 (by kernel_rfl) rfl (by decide)
theorem O8:Bq Tryz.prog 143 46 1 24:=Bq.mk' (.slice none 0 0) Tryz.underlying143 (by kernel_rfl) rfl (by decide)
end Go.Proofs.YtngojkompmcceaaGreatDoor
