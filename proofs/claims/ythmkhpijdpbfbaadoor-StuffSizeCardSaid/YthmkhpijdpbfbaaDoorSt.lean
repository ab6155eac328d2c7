/- What the call owns: blocks known whole and rows that grow, under one word, with a frame rule. -/
import Derived.Test.YthmkhpijdpbfbaaDoorMem
namespace Go.Proofs.YthmkhpijdpbfbaaDoor
open Go.RowKit
/-- Of what was there, only the blocks f may have turned. -/
structure Only (f : List Nat) (w w' : World) : Prop where
  os : w'.os = w.os
  tape : w'.tape = w.tape
  output : w'.output = w.output
  size : w.heap.size ≤ w'.heap.size
  block : ∀ k, k < w.heap.size → k ∉ f → w'.heap[k]? = w.heap[k]?
theorem Only.ext {f : List Nat} {W w w' : World} (h : Only f w w') (hE : Ext W w) (hf : ∀ b ∈ f, W.heap.size ≤ b) : Ext W w' :=
  ⟨h.os.trans hE.os, h.tape.trans hE.tape, h.output.trans hE.output, Nat.le_trans hE.size h.size, fun k hk => by
    rw [h.block k (Nat.lt_of_lt_of_le hk hE.size) (fun hm => by have := hf k hm; omega)]; exact hE.block k hk⟩
theorem Only.setCell (w : World) (a : Addr) (v : Value) : Only [a.block] w (w.setCell a v) :=
  ⟨rfl, rfl, rfl, by simp, fun k _ hm => heap_setCell_other w a k v (by simpa using hm)⟩
theorem Only.setRow (w : World) (g : Nat) (cs : Array Value) : Only [g] w (w.setRow g cs) :=
  ⟨rfl, rfl, rfl, by simp, fun k _ hm => setRow_other w g k cs (by simpa using hm)⟩
theorem Only.grown {w w' : World} {row : Option Nat} (h : w.grownBy w' row) : Only row.toList w w' :=
  ⟨h.os, h.tape, h.output, h.size, fun k hk hm => h.block k hk (fun e => hm (by simp [← e]))⟩
/-- A thing that is owned: what holds of the world at the blocks of a footprint, and of nothing else. -/
structure Res where
  holds : World → List Nat → Prop
  lt : ∀ {w f}, holds w f → ∀ b ∈ f, b < w.heap.size
  loc : ∀ {w w' f}, holds w f → (∀ b ∈ f, w'.heap[b]? = w.heap[b]?) → holds w' f
def Hold (w : World) : List Res → List Nat → Prop
  | [], f => f = []
  | r :: rs, f => ∃ f1 f2, f = f1 ++ f2 ∧ r.holds w f1 ∧ Hold w rs f2
theorem Hold.lt {w : World} : ∀ {rs : List Res} {f : List Nat}, Hold w rs f → ∀ b ∈ f, b < w.heap.size
  | [], f, h, b, hb => by rw [show f = [] from h] at hb; cases hb
  | r :: rs, f, ⟨f1, f2, e, h1, h2⟩, b, hb => by
    rw [e, List.mem_append] at hb
    rcases hb with hb | hb
    · exact r.lt h1 b hb
    · exact Hold.lt h2 b hb
theorem Hold.loc {w w' : World} : ∀ {rs : List Res} {f : List Nat}, Hold w rs f → (∀ b ∈ f, w'.heap[b]? = w.heap[b]?) → Hold w' rs f
  | [], f, h, _ => h
  | r :: rs, f, ⟨f1, f2, e, h1, h2⟩, hs => ⟨f1, f2, e, r.loc h1 fun b hb => hs b (by rw [e]; exact List.mem_append_left _ hb), Hold.loc h2 fun b hb => hs b (by rw [e]; exact List.mem_append_right _ hb)⟩
theorem Hold.append {w : World} : ∀ {rs : List Res} {ss : List Res} {f g : List Nat}, Hold w rs f → Hold w ss g → Hold w (rs ++ ss) (f ++ g)
  | [], ss, f, g, h, k => by rw [show f = [] from h]; exact k
  | r :: rs, ss, f, g, ⟨f1, f2, e, h1, h2⟩, k => ⟨f1, f2 ++ g, by rw [e, List.append_assoc], h1, Hold.append h2 k⟩
theorem Hold.split {w : World} : ∀ {rs : List Res} {ss : List Res} {f : List Nat}, Hold w (rs ++ ss) f → ∃ f1 f2, f = f1 ++ f2 ∧ Hold w rs f1 ∧ Hold w ss f2
  | [], ss, f, h => ⟨[], f, rfl, rfl, h⟩
  | r :: rs, ss, f, ⟨f1, f2, e, h1, h2⟩ => by
    obtain ⟨g1, g2, e2, k1, k2⟩ := Hold.split h2
    exact ⟨f1 ++ g1, g2, by rw [e, e2, List.append_assoc], ⟨f1, g1, rfl, h1, k1⟩, k2⟩
/-- r is among them; without it these are left. -/
inductive Pull (r : Res) : List Res → List Res → Prop
  | head {rs : List Res} : Pull r (r :: rs) rs
  | tail {x : Res} {rs rs' : List Res} (h : Pull r rs rs') : Pull r (x :: rs) (x :: rs')
theorem Hold.pull {w : World} {r : Res} {rs rs' : List Res} (p : Pull r rs rs') : ∀ {f : List Nat}, Hold w rs f → ∃ f', f'.Perm f ∧ Hold w (r :: rs') f' := by
  induction p with
  | head => intro f h; exact ⟨f, List.Perm.refl f, h⟩
  | @tail x rs rs' p ih =>
    intro f h
    obtain ⟨f1, f2, e, h1, h2⟩ := h
    obtain ⟨f', hp, g1, g2, e2, k1, k2⟩ := ih h2
    refine ⟨g1 ++ (f1 ++ g2), ?_, g1, f1 ++ g2, rfl, k1, f1, g2, rfl, h1, k2⟩
    rw [e]
    have p1 : (g1 ++ (f1 ++ g2)).Perm (f1 ++ (g1 ++ g2)) := by
      rw [← List.append_assoc, ← List.append_assoc]
      exact List.Perm.append_right g2 List.perm_append_comm
    exact p1.trans (List.Perm.append_left f1 (by rw [← e2]; exact hp))
/-- The world w is W with new blocks, among them all these, each apart from the others. -/
def St (W w : World) (rs : List Res) : Prop := Ext W w ∧ ∃ f, f.Nodup ∧ (∀ b ∈ f, W.heap.size ≤ b) ∧ Hold w rs f
theorem St.start (W : World) : St W W [] := ⟨Ext.refl W, [], List.nodup_nil, fun b hb => (by cases hb), rfl⟩
theorem St.of_ext {W w : World} (h : Ext W w) : St W w [] := ⟨h, [], List.nodup_nil, fun b hb => (by cases hb), rfl⟩
theorem St.ext {W w w' : World} {rs : List Res} (h : St W w rs) (hE : Ext w w') : St W w' rs := by
  obtain ⟨h1, f, h2, h3, h4⟩ := h
  exact ⟨h1.trans hE, f, h2, h3, h4.loc fun b hb => hE.at (h4.lt b hb)⟩
theorem St.drew {W w : World} {rs : List Res} (h : St W w rs) : St W w.drew rs := h.ext (Ext.refl w).drew
theorem St.drewN {W w : World} {rs : List Res} {n : Nat} (h : St W w rs) : St W (w.drewN n) rs := h.ext (Ext.refl w).drewN
theorem St.pull {W w : World} {r : Res} {rs rs' : List Res} (h : St W w rs) (p : Pull r rs rs') : St W w (r :: rs') := by
  obtain ⟨h1, f, h2, h3, h4⟩ := h
  obtain ⟨f', hp, h5⟩ := h4.pull p
  exact ⟨h1, f', hp.nodup_iff.2 h2, fun b hb => h3 b (hp.mem_iff.1 hb), h5⟩
/-- What is in front has turned, and nothing else. -/
theorem St.change {W w w' : World} {r : Res} {rs rs1 : List Res} (h : St W w (r :: rs))
    (hw : ∀ f1, r.holds w f1 → (∀ b ∈ f1, W.heap.size ≤ b) → f1.Nodup → ∃ f', Hold w' rs1 f' ∧ f'.Nodup ∧ (∀ b ∈ f', b ∈ f1 ∨ w.heap.size ≤ b) ∧ Only f1 w w') : St W w' (rs1 ++ rs) := by
  obtain ⟨h1, f, h2, h3, f1, f2, e, h4, h5⟩ := h
  subst e
  obtain ⟨hn1, hn2, hdis⟩ := List.nodup_append.1 h2
  obtain ⟨f', k1, k2, k3, k4⟩ := hw f1 h4 (fun b hb => h3 b (List.mem_append_left _ hb)) hn1
  have hE := k4.ext h1 (fun b hb => h3 b (List.mem_append_left _ hb))
  refine ⟨hE, f' ++ f2, List.nodup_append.2 ⟨k2, hn2, fun a ha b hb hab => ?_⟩, fun b hb => ?_, Hold.append k1 (h5.loc fun b hb => k4.block b (h5.lt b hb) fun hm => hdis b hm b hb rfl)⟩
  · subst hab
    rcases k3 a ha with h | h
    · exact hdis a h a hb rfl
    · have := h5.lt a hb; omega
  · rcases List.mem_append.1 hb with h | h
    · rcases k3 b h with h' | h'
      · exact h3 b (List.mem_append_left _ h')
      · have := h1.sz; omega
    · exact h3 b (List.mem_append_right _ h)
theorem St.drop {W w : World} {r : Res} {rs : List Res} (h : St W w (r :: rs)) : St W w rs := by
  obtain ⟨h1, f, h2, h3, f1, f2, e, h4, h5⟩ := h
  subst e
  exact ⟨h1, f2, (List.nodup_append.1 h2).2.1, fun b hb => h3 b (List.mem_append_right _ hb), h5⟩
/-- All of xs are among them. -/
inductive Sub : List Res → List Res → Prop
  | nil {rs : List Res} : Sub [] rs
  | refl {rs : List Res} : Sub rs rs
  | skip {x : Res} {xs rs : List Res} (h : Sub xs rs) : Sub xs (x :: rs)
  | cons {r : Res} {xs rs rs' : List Res} (p : Pull r rs rs') (h : Sub xs rs') : Sub (r :: xs) rs
theorem Hold.sub {w : World} {xs rs : List Res} (s : Sub xs rs) : ∀ {f : List Nat}, f.Nodup → Hold w rs f → ∃ f', f'.Nodup ∧ (∀ b ∈ f', b ∈ f) ∧ Hold w xs f' := by
  induction s with
  | nil => intro f _ _; exact ⟨[], List.nodup_nil, fun b hb => (by cases hb), rfl⟩
  | refl => intro f hn h; exact ⟨f, hn, fun b hb => hb, h⟩
  | skip s ih =>
    intro f hn h
    obtain ⟨f1, f2, e, h1, h2⟩ := h
    subst e
    obtain ⟨f3, k1, k2, k3⟩ := ih (List.nodup_append.1 hn).2.1 h2
    exact ⟨f3, k1, fun b hb => List.mem_append_right _ (k2 b hb), k3⟩
  | cons p s ih =>
    intro f hn h
    obtain ⟨f', hp, f1, f2, e, h1, h2⟩ := h.pull p
    have hn' := hp.nodup_iff.2 hn
    subst e
    obtain ⟨n1, n2, hdis⟩ := List.nodup_append.1 hn'
    obtain ⟨f3, k1, k2, k3⟩ := ih n2 h2
    refine ⟨f1 ++ f3, List.nodup_append.2 ⟨n1, k1, fun a ha b hb => hdis a ha b (k2 b hb)⟩, fun b hb => hp.mem_iff.1 ?_, f1, f3, rfl, h1, k3⟩
    rcases List.mem_append.1 hb with h | h
    · exact List.mem_append_left _ h
    · exact List.mem_append_right _ (k2 b h)
theorem St.sub {W w : World} {xs rs : List Res} (h : St W w rs) (s : Sub xs rs) : St W w xs := by
  obtain ⟨h1, f, h2, h3, h4⟩ := h
  obtain ⟨f', k1, k2, k3⟩ := h4.sub s h2
  exact ⟨h1, f', k1, fun b hb => h3 b (k2 b hb), k3⟩
/-- Behind a call that hands on what it has made. -/
theorem St.call {W w w' : World} {rs rs' : List Res} (h : St W w rs) (h' : St w w' rs') : St W w' (rs' ++ rs) := by
  obtain ⟨h1, f, h2, h3, h4⟩ := h
  obtain ⟨k1, g, k2, k3, k4⟩ := h'
  refine ⟨h1.trans k1, g ++ f, List.nodup_append.2 ⟨k2, h2, fun a ha b hb hab => ?_⟩, fun b hb => ?_, Hold.append k4 (h4.loc fun b hb => k1.at (h4.lt b hb))⟩
  · subst hab; have := k3 a ha; have := h4.lt a hb; omega
  · rcases List.mem_append.1 hb with h | h
    · have := k3 b h; have := h1.sz; omega
    · exact h3 b h
theorem St.call1 {W w w' : World} {rs : List Res} {r : Res} (h : St W w rs) (h' : St w w' [r]) : St W w' (r :: rs) := h.call h'
/-- Some things under one word. -/
def bag {ι : Type} (F : ι → List Res) : Res where
  holds w f := ∃ i, Hold w (F i) f
  lt := fun ⟨_, h⟩ => h.lt
  loc := fun ⟨i, h⟩ hs => ⟨i, h.loc hs⟩
theorem St.open {W w : World} {ι : Type} {F : ι → List Res} {rs : List Res} (h : St W w (bag F :: rs)) : ∃ i, St W w (F i ++ rs) := by
  obtain ⟨h1, f, h2, h3, f1, f2, e, ⟨i, h4⟩, h5⟩ := h
  exact ⟨i, h1, f, h2, h3, e ▸ Hold.append h4 h5⟩
theorem St.close {W w : World} {ι : Type} {F : ι → List Res} {rs : List Res} (i : ι) (h : St W w (F i ++ rs)) : St W w (bag F :: rs) := by
  obtain ⟨h1, f, h2, h3, h4⟩ := h
  obtain ⟨f1, f2, e, k1, k2⟩ := h4.split
  exact ⟨h1, f, h2, h3, f1, f2, e, ⟨i, k1⟩, k2⟩
/-- Block g holds these cells. -/
def blk (g : Nat) (cs : List Value) : Res where
  holds w f := f = [g] ∧ Blk w g cs.toArray
  lt := fun ⟨e, h⟩ b hb => by rw [e, List.mem_singleton] at hb; rw [hb]; exact h.lt
  loc := fun ⟨e, h⟩ hs => ⟨e, h.of_heap (hs _ (by rw [e]; simp))⟩
/-- Block g holds n integers. -/
def arr (g n : Nat) (l : List Int) : Res where
  holds w f := f = [g] ∧ Row w g l ∧ l.length = n
  lt := fun ⟨e, h, _⟩ b hb => by rw [e, List.mem_singleton] at hb; rw [hb]; exact h.lt
  loc := fun ⟨e, h, hn⟩ hs => ⟨e, h.of_heap (hs _ (by rw [e]; simp)), hn⟩
/-- The slice at a, of n elements of type e, is the call's own, and its cells are xs. -/
def own (e : TypeId) (s : Nat) (a : Option Addr) (n c : Nat) (xs : List Value) : Res where
  holds w f := f = (Value.slice a n c).ownBlock.toList ∧ w.ownsRow 0 e s (.slice a n c) n xs
  lt := fun ⟨e, h⟩ b hb => (h.lt b (by rw [e] at hb; simpa using hb)).2
  loc := fun {w w' f} ⟨e', h⟩ hs => ⟨e', h.1, h.2.elim .inl fun ⟨g, cap, cur, k1, k2, k3, k4⟩ => .inr ⟨g, cap, cur, k1, k2, (hs g (by rw [e', k1]; simp [Value.ownBlock])).trans k3, k4⟩⟩
theorem St.blk {W w : World} {g : Nat} {cs : List Value} {rs rs' : List Res} (h : St W w rs) (p : Pull (blk g cs) rs rs') : Blk w g cs.toArray ∧ W.heap.size ≤ g := by
  obtain ⟨_, f, _, h3, f1, f2, e, ⟨e1, h4⟩, _⟩ := h.pull p
  exact ⟨h4, h3 g (by rw [e, e1]; simp)⟩
theorem St.arr {W w : World} {g n : Nat} {l : List Int} {rs rs' : List Res} (h : St W w rs) (p : Pull (arr g n l) rs rs') : Row w g l ∧ l.length = n := by
  obtain ⟨_, f, _, h3, f1, f2, e, ⟨e1, h4⟩, _⟩ := h.pull p
  exact h4
theorem St.own {W w : World} {e : TypeId} {s n c : Nat} {a : Option Addr} {xs : List Value} {rs rs' : List Res} (h : St W w rs) (p : Pull (own e s a n c xs) rs rs') : w.ownsRow 0 e s (.slice a n c) n xs := by
  obtain ⟨_, f, _, h3, f1, f2, e, ⟨e1, h4⟩, _⟩ := h.pull p
  exact h4
theorem St.sl {W w : World} {e : TypeId} {s n c : Nat} {a : Option Addr} {xs : List Value} {rs rs' : List Res} (h : St W w rs) (p : Pull (Go.Proofs.YthmkhpijdpbfbaaDoor.own e s a n c xs) rs rs') : Sl w s (.slice a n c) n xs := Sl.ofOwn (h.own p)
theorem St.alloc {W w : World} {rs : List Res} (h : St W w rs) (cs : List Value) (t : TypeId) : St W (w.alloc (.cells cs.toArray t)) (Go.Proofs.YthmkhpijdpbfbaaDoor.blk w.heap.size cs :: rs) := by
  obtain ⟨h1, f, h2, h3, h4⟩ := h
  refine ⟨h1.alloc _, w.heap.size :: f, List.nodup_cons.2 ⟨fun hm => by have := h4.lt _ hm; omega, h2⟩, fun b hb => ?_, [w.heap.size], f, rfl, ⟨rfl, Blk.new w _ t⟩, h4.loc fun b hb => ?_⟩
  · rcases List.mem_cons.1 hb with h | h
    · rw [h]; exact h1.sz
    · exact h3 b h
  · exact heap_alloc_old w _ (h4.lt b hb)
theorem blk_arr {W w : World} {g n : Nat} {l : List Int} {rs : List Res} (hn : l.length = n) (h : St W w (blk g (l.map (Value.int .i64)) :: rs)) : St W w (arr g n l :: rs) := by
  obtain ⟨h1, f, h2, h3, f1, f2, e, ⟨e1, h4⟩, h5⟩ := h
  exact ⟨h1, f, h2, h3, f1, f2, e, ⟨e1, h4, hn⟩, h5⟩
theorem arr_blk {W w : World} {g n : Nat} {l : List Int} {rs : List Res} (h : St W w (arr g n l :: rs)) : St W w (blk g (l.map (Value.int .i64)) :: rs) := by
  obtain ⟨h1, f, h2, h3, f1, f2, e, ⟨e1, h4, hn⟩, h5⟩ := h
  exact ⟨h1, f, h2, h3, f1, f2, e, ⟨e1, h4⟩, h5⟩
theorem St.allocArr {W w : World} {rs : List Res} (h : St W w rs) (l : List Int) (n : Nat) (hn : l.length = n) (t : TypeId) : St W (w.alloc (.cells (iv l) t)) (Go.Proofs.YthmkhpijdpbfbaaDoor.arr w.heap.size n l :: rs) :=
  blk_arr hn (h.alloc (l.map (Value.int .i64)) t)
/-- A nil slice is everybody's own. -/
theorem St.nil {W w : World} {rs : List Res} (h : St W w rs) (e : TypeId) (s : Nat) : St W w (Go.Proofs.YthmkhpijdpbfbaaDoor.own e s none 0 0 [] :: rs) := by
  obtain ⟨h1, f, h2, h3, h4⟩ := h
  exact ⟨h1, f, h2, h3, [], f, rfl, ⟨rfl, by simp, .inl ⟨rfl, rfl⟩⟩, h4⟩
/-- What a place of a list is turned to. -/
inductive SetAt (v : Value) : Nat → List Value → List Value → Prop
  | head {x : Value} {l : List Value} : SetAt v 0 (x :: l) (v :: l)
  | tail {x : Value} {i : Nat} {l l' : List Value} (h : SetAt v i l l') : SetAt v (i + 1) (x :: l) (x :: l')
theorem SetAt.eq {v : Value} {i : Nat} {l l' : List Value} (h : SetAt v i l l') : i < l.length ∧ l' = l.set i v := by
  induction h with
  | head => exact ⟨by simp, rfl⟩
  | tail h ih => exact ⟨by simp; exact ih.1, by rw [List.set_cons_succ, ih.2]⟩
end Go.Proofs.YthmkhpijdpbfbaaDoor
