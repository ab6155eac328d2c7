/- The law TableKraft: its walk, and the statement. -/
import Derived.Test.YtndclaiobhgmbaaTableKeep
import Derived.Test.YtndclaiobhgmbaaOpenTab
namespace Go.Proofs.Ytndclaiobhgmbaa
open Go.ChangeShapes Go.WideShapes Go.ChangeAt Go.RowKit
set_option linter.unusedVariables false
theorem Tile.head {a b : Nat} {x : Nat × Nat} {l : List (Nat × Nat)} (h : Tile a (x :: l) b) : a = wlo x ∧ Tile (whi x) l b := by
  cases h with
  | cons h => exact ⟨rfl, h⟩
theorem Tile.last {a b : Nat} (h : Tile a [] b) : a = b := by cases h; rfl
set_option maxRecDepth 100000 in
set_option maxHeartbeats 4000000 in
theorem TableKraft_walk {H : Type} {enc : TypeId × Value → H} {d0 : DataW H} {p0 : List MemPlace} {v0 : Value} {base : Nat} (W : World)
    (o0 : Value.okWide Try.prog W .any base 25 v0) (h0 : DataW.Trod enc Try.prog W 0 (fun _ => true) true 25 v0 d0 p0) (lt0 : ∀ x ∈ p0, x.block < W.heap.size)
    :
    Calls Try.prog 4 #[v0] W fun e w' => e = .returned (.bool true) ∧ Ext W w' := by
  obtain ⟨C, S, ad, n, c, rfl, hT⟩ := op_tab o0 h0
  clear o0 h0 lt0
  have hC := hT.len
  have hv := hT.sl
  have hnc := hT.nc
  have hcm := hT.cm
  have hSl : S.length = n := by have := hv.1; simpa using this
  have HSl := hid hSl
  clear hT hSl
  have hS := St.start W
  obtain ⟨E, hE⟩ : ∃ E, tabE C S = E := ⟨_, rfl⟩
  have HE := hid hE
  clear hE
  by_cases h0 : E = 0
  case neg =>
    go_enter Try.func4, Try.ntmps4
    repeat' (first
      | ((with_reducible show wpList _ _ _ (⟨_, .call ⟨.value (.func 10), _, _⟩, _, _, _, _⟩ :: _) _ _); refine wpl_call (f := 10) Try.call10 rfl ?_; refine ⟨_, (tabled_any _), ?_⟩; rintro e w ⟨rfl, hE2⟩; replace hS := hS.ext hE2; clear hE2; refine ⟨_, rfl, ?_⟩; refine put_move ?_; go_step)
      | ((with_reducible show wpList _ _ _ (⟨_, .call ⟨.value (.func 11), _, _⟩, _, _, _, _⟩ :: _) _ _); refine wpl_call (f := 11) Try.call11 rfl ?_; refine ⟨_, (words_any _ C S ad n c hC (hv.ext hS.1) (by omega)), ?_⟩; rintro e w ⟨a2, n2, c2, hn2, rfl, hS2⟩; rw [if_neg (by rw [HE.out]; exact h0)] at hn2 hS2; subst hn2; rw [HE.out]; replace hS := hS.ext hS2.1; clear hS2; refine ⟨_, rfl, ?_⟩; refine put_move ?_; go_step)
      | go_skip
      | go_big_skip
      | ((with_reducible show wpList _ _ _ (⟨_, .move _, _, _, _, _⟩ :: _) _ _); (first | go_big_want | go_step); go_step)
      | ((with_reducible show wpList _ _ _ (⟨_, .assign _, _, _, _, _⟩ :: _) _ _); (first | go_big_want | go_step); go_step)
      | ((with_reducible show wpList _ _ _ (⟨_, .pick _ _ _, _, _, _, _⟩ :: _) _ _); first | (refine wplPickT rfl (by kernel_rfl) ?_; go_step) | (refine wplPickF rfl (by kernel_rfl) ?_; go_step))
      | ((with_reducible show wpList _ _ _ (⟨_, .unOp .not _ _, _, _, _, _⟩ :: _) _ _); first | (refine wplV _ (V.notD rfl) (by kernel_rfl) ?_; go_step) | (refine wplV _ (V.not rfl) (by kernel_rfl) ?_; go_step))
      | ((with_reducible show wpList _ _ _ (⟨_, .extract _ _, _, _, _, _⟩ :: _) _ _); first | (refine wplV _ (V.extract rfl rfl) (by kernel_rfl) ?_; go_step))
      | ((with_reducible show wpList _ _ _ (⟨_, .binOp .neq 28 _ _ _, _, _, _, _⟩ :: _) _ _); first | (refine wplV _ (V.neq rfl rfl) (by kernel_rfl) ?_; go_step))
      | ((with_reducible show wpList _ _ _ (⟨some 1, .box 25 _, _, _, _, _⟩ :: _) _ _); first | (refine wpl (by kernel_rfl) ?_; apply wp_boxP (o := ⟨some 1, _, _, _, _, _⟩) hS 25 _ rfl _ rfl; clear hS; intro g1 w hS; refine put_move ?_; go_step))
      | ((with_reducible show wpList _ _ _ (⟨_, .load 25 _, _, _, _, _⟩ :: _) _ _); first | (refine wpl (by kernel_rfl) ?_; apply wp_loadPP hS 25 _ rfl _ _ rfl 17 (row_of rfl) _; (case hp => (repeat (first | with_reducible exact Pull.head | apply Pull.tail))); (case hi => (repeat (first | (apply AtP.head; (repeat (first | exact Pre.nil | (apply Pre.ints; (case hn => (first | (with_reducible assumption) | exact Len.rep | exact Len.set (by with_reducible assumption) | exact Len.set Len.rep | exact Len.set (Len.set Len.rep))); (case h => omega); (case hm => rfl)) | apply Pre.val))) | (apply AtP.skipI; (case hn => (first | (with_reducible assumption) | exact Len.rep | exact Len.set (by with_reducible assumption) | exact Len.set Len.rep | exact Len.set (Len.set Len.rep))); (case h => omega); (case ho => rfl)) | apply AtP.skipV))); refine put_move ?_; go_step) | (refine wpl (by kernel_rfl) ?_; apply wp_loadA hS 25 _ rfl _ rfl 17 (row_of rfl) _; (case hp => (repeat (first | with_reducible exact Pull.head | apply Pull.tail))); refine put_move ?_; go_step) | (refine wpl (by kernel_rfl) ?_; apply wp_loadG hS 25 _ rfl _ rfl 17 (row_of rfl) _; (case hp => (repeat (first | with_reducible exact Pull.head | apply Pull.tail))); (case hn => rfl); refine put_move ?_; go_step) | (refine wpl (by kernel_rfl) ?_; apply wp_loadRW hS 25 _ rfl _ _ rfl 17 (row_of rfl) _; (case hc => with_reducible assumption); (case hn => rfl); refine put_move ?_; go_step))
      | ((fail_if_success (with_reducible show wpList _ _ _ (_ :: _) _ _)); go_step))
    all_goals (go_ret; exact ⟨rfl, hS.1⟩)
  subst h0
  obtain ⟨L, hL⟩ : ∃ L, wds C S = L := ⟨_, rfl⟩
  have HG := hid (hL ▸ wds_good HE.out)
  have HLl : Hid (L.length = n) := hid (by rw [← hL, wds_len _ _ (tabE_ok HE.out).2.1, HSl.out])
  have HL := hid hL
  clear hL
  go_enter Try.func4, Try.ntmps4
  repeat' (first
    | ((with_reducible show wpList _ _ _ (⟨_, .call ⟨.value (.func 10), _, _⟩, _, _, _, _⟩ :: _) _ _); refine wpl_call (f := 10) Try.call10 rfl ?_; refine ⟨_, (tabled_any _), ?_⟩; rintro e w ⟨rfl, hE2⟩; replace hS := hS.ext hE2; clear hE2; refine ⟨_, rfl, ?_⟩; refine put_move ?_; go_step)
    | ((with_reducible show wpList _ _ _ (⟨_, .call ⟨.value (.func 11), _, _⟩, _, _, _, _⟩ :: _) _ _); refine wpl_call (f := 11) Try.call11 rfl ?_; refine ⟨_, (words_any _ C S ad n c hC (hv.ext hS.1) (by omega)), ?_⟩; rintro e w ⟨a2, n2, c2, hn2, rfl, hS2⟩; rw [if_pos HE.out, HSl.out] at hn2; rw [if_pos HE.out, HL.out] at hS2; subst hn2; rw [HE.out]; replace hS := hS.call1 hS2; clear hS2; refine ⟨_, rfl, ?_⟩; refine put_move ?_; go_step)
    | go_skip
    | go_big_skip
    | ((with_reducible show wpList _ _ _ (⟨_, .move _, _, _, _, _⟩ :: _) _ _); (first | go_big_want | go_step); go_step)
    | ((with_reducible show wpList _ _ _ (⟨_, .assign _, _, _, _, _⟩ :: _) _ _); (first | go_big_want | go_step); go_step)
    | ((with_reducible show wpList _ _ _ (⟨_, .pick _ _ _, _, _, _, _⟩ :: _) _ _); first | (refine wplPickT rfl (by kernel_rfl) ?_; go_step) | (refine wplPickF rfl (by kernel_rfl) ?_; go_step))
    | ((with_reducible show wpList _ _ _ (⟨_, .unOp .not _ _, _, _, _, _⟩ :: _) _ _); first | (refine wplV _ (V.notD rfl) (by kernel_rfl) ?_; go_step) | (refine wplV _ (V.not rfl) (by kernel_rfl) ?_; go_step))
    | ((with_reducible show wpList _ _ _ (⟨_, .extract _ _, _, _, _, _⟩ :: _) _ _); first | (refine wplV _ (V.extract rfl rfl) (by kernel_rfl) ?_; go_step))
    | ((with_reducible show wpList _ _ _ (⟨_, .binOp .neq 28 _ _ _, _, _, _, _⟩ :: _) _ _); first | (refine wplV _ (V.neq rfl rfl) (by kernel_rfl) ?_; go_step))
    | ((with_reducible show wpList _ _ _ (⟨_, .call ⟨.builtin .len, _, _⟩, _, _, _, _⟩ :: _) _ _); first | (refine wplV _ (V.len Try.underlying27 rfl) (by kernel_rfl) ?_; go_step))
    | ((with_reducible show wpList _ _ _ (⟨some 1, .box 25 _, _, _, _, _⟩ :: _) _ _); first | (refine wpl (by kernel_rfl) ?_; apply wp_boxP (o := ⟨some 1, _, _, _, _, _⟩) hS 25 _ rfl _ rfl; clear hS; intro g1 w hS; refine put_move ?_; go_step))
    | ((with_reducible show wpList _ _ _ (⟨_, .load 25 _, _, _, _, _⟩ :: _) _ _); first | (refine wpl (by kernel_rfl) ?_; apply wp_loadPP hS 25 _ rfl _ _ rfl 17 (row_of rfl) _; (case hp => (repeat (first | with_reducible exact Pull.head | apply Pull.tail))); (case hi => (repeat (first | (apply AtP.head; (repeat (first | exact Pre.nil | (apply Pre.ints; (case hn => (first | (with_reducible assumption) | exact Len.rep | exact Len.set (by with_reducible assumption) | exact Len.set Len.rep | exact Len.set (Len.set Len.rep))); (case h => omega); (case hm => rfl)) | apply Pre.val))) | (apply AtP.skipI; (case hn => (first | (with_reducible assumption) | exact Len.rep | exact Len.set (by with_reducible assumption) | exact Len.set Len.rep | exact Len.set (Len.set Len.rep))); (case h => omega); (case ho => rfl)) | apply AtP.skipV))); refine put_move ?_; go_step) | (refine wpl (by kernel_rfl) ?_; apply wp_loadA hS 25 _ rfl _ rfl 17 (row_of rfl) _; (case hp => (repeat (first | with_reducible exact Pull.head | apply Pull.tail))); refine put_move ?_; go_step) | (refine wpl (by kernel_rfl) ?_; apply wp_loadG hS 25 _ rfl _ rfl 17 (row_of rfl) _; (case hp => (repeat (first | with_reducible exact Pull.head | apply Pull.tail))); (case hn => rfl); refine put_move ?_; go_step) | (refine wpl (by kernel_rfl) ?_; apply wp_loadRW hS 25 _ rfl _ _ rfl 17 (row_of rfl) _; (case hc => with_reducible assumption); (case hn => rfl); refine put_move ?_; go_step))
    | ((fail_if_success (with_reducible show wpList _ _ _ (_ :: _) _ _)); go_step))
  have HN := hid (tabE_ok HE.out).2.2.1
  have hn256 : n2 ≤ 256 := by have := HN.out; rw [HSl.out] at this; exact this
  obtain ⟨D, hD⟩ : ∃ D, cds (cc C) 16 = D := ⟨_, rfl⟩
  have HT := hid (tile_cds (cc C) 16 (by omega))
  have HM := hid (cds_mono (cc C) 16)
  have HDl := hid (show D.length = n2 by rw [← hD, cds_len, (tabE_ok HE.out).2.1, HSl.out])
  have HE2 := hid ((roomy_iff _).1 (tabE_ok HE.out).2.2.2.2.2)
  have HLg : Hid (∀ i, i < n2 → ∃ y, D[i]? = some y ∧ L[i]? = some (nth S i, y)) := hid fun i hi => by
    obtain ⟨y, e1, e2⟩ := wds_get C S (tabE_ok HE.out).2.1 i (by rw [HSl.out]; exact hi)
    rw [hD] at e1
    rw [HL.out] at e2
    exact ⟨y, e1, e2⟩
  rw [hD] at HT HM
  clear hD
  go_loopg [5, 19] n2 (fun gk rv kv w => ∃ i R : Nat, gk + i = n2 ∧ kv = .int .i64 i ∧ rv = .int .i64 R ∧ Hid (Tile R (D.drop i) (nx (cc C) 16 * 2 ^ (16 - 16))) ∧ St W w [own 32 3 a2 n2 c2 ((wfl L).map (Value.int .i64)), prt g1 [.ints C, .val (.slice ad n2 c)]])
  case atStart => exact ⟨0, 0, rfl, rfl, rfl, HT, hS⟩
  case round =>
    clear hS
    obtain ⟨i, R, hi, rfl, rfl, HTl, hS⟩ := hrel
    by_cases hlt : i < n2
    · obtain ⟨b2, rfl⟩ := own_some hS (by (repeat (first | with_reducible exact Pull.head | apply Pull.tail))) (by omega)
      obtain ⟨⟨la, ca⟩, hd, hx⟩ := HLg.out i hlt
      obtain ⟨sa, hsa⟩ : ∃ s, nth S i = s := ⟨_, rfl⟩
      rw [hsa] at hx
      have hseg := wfl_get L i _ hx
      obtain ⟨g1a, g2a, g3a⟩ := HG.out.long _ (List.mem_of_getElem? hx)
      dsimp only at hseg g1a g2a
      have htl := HTl.out
      have hdl : i < D.length := by rw [HDl.out]; exact hlt
      have hde : D.drop i = (la, ca) :: D.drop (i + 1) := by
        rw [List.drop_eq_getElem_cons hdl]
        rw [List.getElem?_eq_getElem hdl] at hd
        rw [Option.some.inj hd]
      rw [hde] at htl
      obtain ⟨hR, htl2⟩ := htl.head
      have HT2 := hid htl2
      obtain ⟨Q, hQ⟩ : ∃ Q, 2 ^ (16 - la) = Q := ⟨_, rfl⟩
      have hQ2 : Q ≤ 65536 := by rw [← hQ]; exact Nat.pow_le_pow_right (n := 2) (j := 16) (by omega) (by omega)
      have hle := htl2.le
      rw [Nat.sub_self, Nat.pow_zero, Nat.mul_one] at hle
      have hwh : whi (la, ca) = R + Q := by
        rw [hR]; unfold whi wlo; dsimp only; rw [hQ, Nat.add_mul, Nat.one_mul]
      have hR2 : R + Q ≤ 65536 := by have := HE2.out; omega
      have HWh := hid hwh
      have HR : Hid ((ca : Int) * 2 ^ (16 - la) = ((R : Nat) : Int)) := hid (by rw [hR]; unfold wlo; push_cast; rfl)
      have HQ : Hid ((2 : Int) ^ (16 - la) = ((Q : Nat) : Int)) := hid (by rw [← hQ]; push_cast; rfl)
      have hmono : 0 < i → nth (wfl L) ((i - 1) * 3 + 1) ≤ (la : Int) := fun h0 => by
        obtain ⟨⟨lb, cb⟩, hd2, hx2⟩ := HLg.out (i - 1) (by omega)
        have := (wfl_nth L (i - 1) _ hx2).2.1
        rw [this]
        have hm := HM.out
        rw [List.pairwise_iff_getElem] at hm
        obtain ⟨e1, e2⟩ := List.getElem?_eq_some_iff.1 hd2
        obtain ⟨e3, e4⟩ := List.getElem?_eq_some_iff.1 hd
        have := hm (i - 1) i e1 e3 (by omega)
        rw [e2, e4] at this
        exact Int.ofNat_le.2 this
      clear hx hd hsa htl htl2 hde hR hQ hle hwh hdl g3a HTl
      have hmono2 : i = 0 ∨ nth (wfl L) ((i - 1) * 3 + 1) ≤ (la : Int) := by
        by_cases h : i = 0
        · exact .inl h
        · exact .inr (hmono (by omega))
      clear hmono
      rcases hmono2 with h0 | hmono
      all_goals
        repeat' (first
          | go_skip
          | go_big_skip
          | ((with_reducible show wpList _ _ _ (⟨_, .move _, _, _, _, _⟩ :: _) _ _); (first | go_big_want | go_step); go_step)
          | ((with_reducible show wpList _ _ _ (⟨_, .assign _, _, _, _, _⟩ :: _) _ _); (first | go_big_want | go_step); go_step)
          | ((with_reducible show wpList _ _ _ (⟨_, .pick _ _ _, _, _, _, _⟩ :: _) _ _); first | (refine wplPickT rfl (by kernel_rfl) ?_; go_step) | (refine wplPickF rfl (by kernel_rfl) ?_; go_step))
          | ((with_reducible show wpList _ _ _ (⟨_, .binOp .lss _ _ _ _, _, _, _, _⟩ :: _) _ _); first | (refine wplV _ (V.lss rfl rfl) (by kernel_rfl) ?_; go_step))
          | ((with_reducible show wpList _ _ _ (⟨some 22, .indexAddr 27 _ _, _, _, _, _⟩ :: _) _ _); first | (refine wplV _ (V.indexSl Try.underlying27 isz32 rfl rfl (by (repeat (first | exact IsN.auto | with_reducible apply IsN.add | with_reducible apply IsN.sub | with_reducible apply IsN.mul | with_reducible apply IsN.div | with_reducible apply IsN.mod | with_reducible apply IsN.min | with_reducible apply IsN.max | (with_reducible show (_ : Nat) ≤ _; omega) | exact IsN.toNat (by omega)))) (by omega) rfl (by first | with_reducible exact Nat.zero_add _ | with_reducible exact Nat.add_zero _ | exact rfl)) (by kernel_rfl) ?_; go_step) | (refine wpl_indexS (by with_reducible assumption) Try.underlying27 isz32 rfl rfl (by (repeat (first | exact IsN.auto | with_reducible apply IsN.add | with_reducible apply IsN.sub | with_reducible apply IsN.mul | with_reducible apply IsN.div | with_reducible apply IsN.mod | with_reducible apply IsN.min | with_reducible apply IsN.max | (with_reducible show (_ : Nat) ≤ _; omega) | exact IsN.toNat (by omega)))) (by omega) rfl ?_; intro b22 o22 hl22 hc22; go_step) | (refine wpl_indexW (by with_reducible assumption) Try.underlying27 isz32 rfl rfl (by (repeat (first | exact IsN.auto | with_reducible apply IsN.add | with_reducible apply IsN.sub | with_reducible apply IsN.mul | with_reducible apply IsN.div | with_reducible apply IsN.mod | with_reducible apply IsN.min | with_reducible apply IsN.max | (with_reducible show (_ : Nat) ≤ _; omega) | exact IsN.toNat (by omega)))) (by omega) rfl ?_; intro b22 o22 hc22; go_step) | (refine wpl_indexO hS rfl (by (repeat (first | with_reducible exact Pull.head | apply Pull.tail))) Try.underlying27 isz32 rfl (by (repeat (first | exact IsN.auto | with_reducible apply IsN.add | with_reducible apply IsN.sub | with_reducible apply IsN.mul | with_reducible apply IsN.div | with_reducible apply IsN.mod | with_reducible apply IsN.min | with_reducible apply IsN.max | (with_reducible show (_ : Nat) ≤ _; omega) | exact IsN.toNat (by omega)))) (by omega) rfl rfl ?_; (first | (rintro b22 rfl) | (intro b22 hb22; cases hb22)); go_step))
          | ((with_reducible show wpList _ _ _ (⟨_, .load 32 _, _, _, _, _⟩ :: _) _ _); first | (refine wpl (by kernel_rfl) ?_; apply wp_loadROE hS 32 _ rfl _ _ rfl 3 (row_of rfl) _ _ _ _ _; (case hp => (repeat (first | with_reducible exact Pull.head | apply Pull.tail))); (case hi => omega); (case hl' => with_reducible assumption); refine put_move ?_; go_step) | (refine wpl (by kernel_rfl) ?_; apply wp_loadRI hS 32 _ rfl _ _ rfl 3 (row_of rfl) _; (case hl => with_reducible assumption); (case hr => with_reducible assumption); refine put_move ?_; go_step) | (refine wpl (by kernel_rfl) ?_; apply wp_loadRO hS 32 _ rfl _ _ rfl 3 (row_of rfl) _ _ _ _ _; (case hp => (repeat (first | with_reducible exact Pull.head | apply Pull.tail))); (case hi => omega); refine put_move ?_; go_step) | (refine wpl (by kernel_rfl) ?_; apply wp_loadA hS 32 _ rfl _ rfl 3 (row_of rfl) _; (case hp => (repeat (first | with_reducible exact Pull.head | apply Pull.tail))); refine put_move ?_; go_step) | (refine wpl (by kernel_rfl) ?_; apply wp_loadG hS 32 _ rfl _ rfl 3 (row_of rfl) _; (case hp => (repeat (first | with_reducible exact Pull.head | apply Pull.tail))); (case hn => rfl); refine put_move ?_; go_step) | (refine wpl (by kernel_rfl) ?_; apply wp_loadRW hS 32 _ rfl _ _ rfl 3 (row_of rfl) _; (case hc => with_reducible assumption); (case hn => rfl); refine put_move ?_; go_step))
          | ((with_reducible show wpList _ _ _ (⟨some 7, .alloc 32, _, _, _, _⟩ :: _) _ _); first | (refine wpl (by kernel_rfl) ?_; apply wp_alloc (o := ⟨some 7, _, _, _, _, _⟩) hS 32 rfl (.agg #[.int .i64 0, .int .i64 0, .int .i64 0]) [.int .i64 0, .int .i64 0, .int .i64 0] (fun w => Try.zeroValue32 w) rfl; clear hS; intro g7 w hS; refine put_move ?_; go_step))
          | ((with_reducible show wpList _ _ _ (⟨_, .store 32 _ _, _, _, _, _⟩ :: _) _ _); first | (refine wpl (by kernel_rfl) ?_; apply wp_storeA hS 32 _ _ rfl _ rfl 3 (row_of rfl) _ _; (case hp => (repeat (first | with_reducible exact Pull.head | apply Pull.tail))); (case hy => rfl); (case hm => (repeat (first | assumption | exact Len.rep | apply Len.set | exact rfl))); (case hd => exact rfl); clear hS; intro w hS) | (refine wpl (by kernel_rfl) ?_; apply wp_storeG hS 32 _ _ rfl _ rfl 3 (row_of rfl) _ _; (case hp => (repeat (first | with_reducible exact Pull.head | apply Pull.tail))); (case hy => rfl); (case hn => rfl); (case hn' => rfl); (case hv => rfl); (case hd => exact rfl); clear hS; intro w hS))
          | ((fail_if_success (with_reducible show wpList _ _ _ (_ :: _) _ _)); go_step))
        refine drawn_lit [] (fun w => St W w [blk g7 ([sa, (la : Int), (ca : Int)].map (Value.int .i64)), own 32 3 (some ⟨b2, 0, none⟩) n2 c2 ((wfl L).map (Value.int .i64))]) (by kernel_rfl) ?_
        replace hS := hS.drew
        focus
          first | (refine takeV 0 _ (by (repeat (first | with_reducible exact AtL.head | apply AtL.tail))) (by kernel_rfl) (by kernel_rfl) (by kernel_rfl) (by exact fun _ _ _ _ h => h) (V.fieldAddr fo32_1 rfl (by first | with_reducible exact Nat.zero_add _ | with_reducible exact Nat.add_zero _ | exact rfl)) rfl ?_)
          go_step
          apply takeS 1 (by (repeat (first | with_reducible exact AtL.head | apply AtL.tail))) (by kernel_rfl) (by kernel_rfl) (by kernel_rfl) (by exact fun _ _ _ _ h => h) [2, 3, 4, 5, 6, 7, 8, 9, 10, 11, 12, 13, 14, 15, 16, 17, 18, 19, 20, 21, 22, 23, 24, 25, 26, 27, 28, 29, 30, 31, 32] (by kernel_rfl) (hS.sub (by (repeat (first | exact Sub.nil | with_reducible exact Sub.refl | (refine Sub.cons (by (repeat (first | with_reducible exact Pull.head | apply Pull.tail))) ?_) | apply Sub.skip))))
          case hfr => intro w hS; (first | (refine wpl (by kernel_rfl) ?_; apply wp_load1A hS 3 _ rfl _ _ rfl (one_of rfl) _ _; (case hp => (repeat (first | with_reducible exact Pull.head | apply Pull.tail))); (case hi => omega); refine put_move ?_; go_step) | (refine wpl (by kernel_rfl) ?_; apply wp_load1OI hS 3 _ rfl _ _ rfl (one_of rfl) _ _ _ _ _; (case hp => (repeat (first | with_reducible exact Pull.head | apply Pull.tail))); (case hi => omega); refine put_move ?_; go_step) | (refine wpl (by kernel_rfl) ?_; apply wp_load1 hS 3 _ rfl _ _ rfl (one_of rfl) _; (case hp => (repeat (first | with_reducible exact Pull.head | apply Pull.tail))); (case hc => rfl); refine put_move ?_; go_step) | (refine wpl (by kernel_rfl) ?_; apply wp_load1O hS 3 _ rfl _ _ rfl (one_of rfl) _ _ _ _ _; (case hp => (repeat (first | with_reducible exact Pull.head | apply Pull.tail))); (case hv => with_reducible assumption); refine put_move ?_; go_step) | (refine wpl (by kernel_rfl) ?_; apply wp_loadW hS 3 _ rfl _ rfl (one_of rfl) _; (case hc => with_reducible assumption); refine put_move ?_; go_step) | (refine wpl (by kernel_rfl) ?_; apply wp_load1R hS 3 _ rfl _ _ _ rfl (one_of rfl) _ _; (case hl => with_reducible assumption); (case hr => with_reducible assumption); (case hf => omega); refine put_move ?_; go_step) | (refine wpl (by kernel_rfl) ?_; apply wp_load1R0 hS 3 _ rfl _ _ rfl (one_of rfl) _ _; (case hl => with_reducible assumption); (case hr => with_reducible assumption); (case hf => omega); refine put_move ?_; go_step) | (refine wpl (by kernel_rfl) ?_; apply wp_load1P hS 3 _ rfl _ _ rfl (one_of rfl) _; (case hp => (repeat (first | with_reducible exact Pull.head | apply Pull.tail))); (case hi => (repeat (first | (apply AtI.head; (case hn => (first | (with_reducible assumption) | exact Len.rep | exact Len.set (by with_reducible assumption) | exact Len.set Len.rep | exact Len.set (Len.set Len.rep))); (case h => omega)) | (apply AtI.skipI; (case hn => (first | (with_reducible assumption) | exact Len.rep | exact Len.set (by with_reducible assumption) | exact Len.set Len.rep | exact Len.set (Len.set Len.rep))); (case h => omega); (case ho => rfl)) | apply AtI.skipV))); refine put_move ?_; go_step) | (refine wpl (by kernel_rfl) ?_; apply wp_loadVP hS 3 _ rfl _ _ rfl (one_of rfl) _; (case hp => (repeat (first | with_reducible exact Pull.head | apply Pull.tail))); (case hi => (repeat (first | exact AtV.head | (apply AtV.skipI; (case hn => (first | (with_reducible assumption) | exact Len.rep | exact Len.set (by with_reducible assumption) | exact Len.set Len.rep | exact Len.set (Len.set Len.rep))); (case h => omega); (case ho => rfl)) | apply AtV.skipV))); refine put_move ?_; go_step)); refine wpList_nil ?_; exact ⟨rfl, rfl⟩
          case hd => rfl
          first | (refine takeD 2 _ (by (repeat (first | with_reducible exact AtL.head | apply AtL.tail))) (by kernel_rfl) (by kernel_rfl) (by kernel_rfl) (by exact fun _ _ _ _ h => h) (V.lss rfl rfl) rfl (fun hB => ?_) (fun hB => ?_)) | (refine takeB 2 _ (by (repeat (first | with_reducible exact AtL.head | apply AtL.tail))) (by kernel_rfl) (by kernel_rfl) (by kernel_rfl) (by exact fun _ _ _ _ h => h) (V.lss rfl rfl) rfl (fun hB => ?_) (fun hB => ?_))
          rotate_left 1
          focus
            (try (have hF : False := (by omega); cases hF))
            all_goals
              go_step
              refine takeM 3 _ (by (repeat (first | with_reducible exact AtL.head | apply AtL.tail))) (by kernel_rfl) (by kernel_rfl) (by kernel_rfl) (by exact fun _ _ _ _ h => h) rfl ?_
              go_step
              first | (refine takeV 4 _ (by (repeat (first | with_reducible exact AtL.head | apply AtL.tail))) (by kernel_rfl) (by kernel_rfl) (by kernel_rfl) (by exact fun _ _ _ _ h => h) (V.fieldAddr fo32_1 rfl (by first | with_reducible exact Nat.zero_add _ | with_reducible exact Nat.add_zero _ | exact rfl)) rfl ?_)
              go_step
              apply takeS 5 (by (repeat (first | with_reducible exact AtL.head | apply AtL.tail))) (by kernel_rfl) (by kernel_rfl) (by kernel_rfl) (by exact fun _ _ _ _ h => h) [6, 7, 8, 9, 10, 11, 12, 13, 14, 15, 16, 17, 18, 19, 20, 21, 22, 23, 24, 25, 26, 27, 28, 29, 30, 31, 32] (by kernel_rfl) (hS.sub (by (repeat (first | exact Sub.nil | with_reducible exact Sub.refl | (refine Sub.cons (by (repeat (first | with_reducible exact Pull.head | apply Pull.tail))) ?_) | apply Sub.skip))))
              case hfr => intro w hS; (first | (refine wpl (by kernel_rfl) ?_; apply wp_load1A hS 3 _ rfl _ _ rfl (one_of rfl) _ _; (case hp => (repeat (first | with_reducible exact Pull.head | apply Pull.tail))); (case hi => omega); refine put_move ?_; go_step) | (refine wpl (by kernel_rfl) ?_; apply wp_load1OI hS 3 _ rfl _ _ rfl (one_of rfl) _ _ _ _ _; (case hp => (repeat (first | with_reducible exact Pull.head | apply Pull.tail))); (case hi => omega); refine put_move ?_; go_step) | (refine wpl (by kernel_rfl) ?_; apply wp_load1 hS 3 _ rfl _ _ rfl (one_of rfl) _; (case hp => (repeat (first | with_reducible exact Pull.head | apply Pull.tail))); (case hc => rfl); refine put_move ?_; go_step) | (refine wpl (by kernel_rfl) ?_; apply wp_load1O hS 3 _ rfl _ _ rfl (one_of rfl) _ _ _ _ _; (case hp => (repeat (first | with_reducible exact Pull.head | apply Pull.tail))); (case hv => with_reducible assumption); refine put_move ?_; go_step) | (refine wpl (by kernel_rfl) ?_; apply wp_loadW hS 3 _ rfl _ rfl (one_of rfl) _; (case hc => with_reducible assumption); refine put_move ?_; go_step) | (refine wpl (by kernel_rfl) ?_; apply wp_load1R hS 3 _ rfl _ _ _ rfl (one_of rfl) _ _; (case hl => with_reducible assumption); (case hr => with_reducible assumption); (case hf => omega); refine put_move ?_; go_step) | (refine wpl (by kernel_rfl) ?_; apply wp_load1R0 hS 3 _ rfl _ _ rfl (one_of rfl) _ _; (case hl => with_reducible assumption); (case hr => with_reducible assumption); (case hf => omega); refine put_move ?_; go_step) | (refine wpl (by kernel_rfl) ?_; apply wp_load1P hS 3 _ rfl _ _ rfl (one_of rfl) _; (case hp => (repeat (first | with_reducible exact Pull.head | apply Pull.tail))); (case hi => (repeat (first | (apply AtI.head; (case hn => (first | (with_reducible assumption) | exact Len.rep | exact Len.set (by with_reducible assumption) | exact Len.set Len.rep | exact Len.set (Len.set Len.rep))); (case h => omega)) | (apply AtI.skipI; (case hn => (first | (with_reducible assumption) | exact Len.rep | exact Len.set (by with_reducible assumption) | exact Len.set Len.rep | exact Len.set (Len.set Len.rep))); (case h => omega); (case ho => rfl)) | apply AtI.skipV))); refine put_move ?_; go_step) | (refine wpl (by kernel_rfl) ?_; apply wp_loadVP hS 3 _ rfl _ _ rfl (one_of rfl) _; (case hp => (repeat (first | with_reducible exact Pull.head | apply Pull.tail))); (case hi => (repeat (first | exact AtV.head | (apply AtV.skipI; (case hn => (first | (with_reducible assumption) | exact Len.rep | exact Len.set (by with_reducible assumption) | exact Len.set Len.rep | exact Len.set (Len.set Len.rep))); (case h => omega); (case ho => rfl)) | apply AtV.skipV))); refine put_move ?_; go_step)); refine wpList_nil ?_; exact ⟨rfl, rfl⟩
              case hd => rfl
              first | (refine takeD 6 _ (by (repeat (first | with_reducible exact AtL.head | apply AtL.tail))) (by kernel_rfl) (by kernel_rfl) (by kernel_rfl) (by exact fun _ _ _ _ h => h) (V.gtr rfl rfl) rfl (fun hB => ?_) (fun hB => ?_)) | (refine takeB 6 _ (by (repeat (first | with_reducible exact AtL.head | apply AtL.tail))) (by kernel_rfl) (by kernel_rfl) (by kernel_rfl) (by exact fun _ _ _ _ h => h) (V.gtr rfl rfl) rfl (fun hB => ?_) (fun hB => ?_))
              rotate_left 1
              focus
                (try (have hF : False := (by omega); cases hF))
                all_goals
                  go_step
                  refine takePickF 7 (by (repeat (first | with_reducible exact AtL.head | apply AtL.tail))) (by kernel_rfl) (by kernel_rfl) (by kernel_rfl) (by exact fun _ _ _ _ h => h) rfl rfl ?_
                  go_step
                  refine takeM 8 _ (by (repeat (first | with_reducible exact AtL.head | apply AtL.tail))) (by kernel_rfl) (by kernel_rfl) (by kernel_rfl) (by exact fun _ _ _ _ h => h) rfl ?_
                  go_step
                  first | (refine takeV 9 _ (by (repeat (first | with_reducible exact AtL.head | apply AtL.tail))) (by kernel_rfl) (by kernel_rfl) (by kernel_rfl) (by exact fun _ _ _ _ h => h) (V.fieldAddr fo32_2 rfl (by first | with_reducible exact Nat.zero_add _ | with_reducible exact Nat.add_zero _ | exact rfl)) rfl ?_)
                  go_step
                  apply takeS 10 (by (repeat (first | with_reducible exact AtL.head | apply AtL.tail))) (by kernel_rfl) (by kernel_rfl) (by kernel_rfl) (by exact fun _ _ _ _ h => h) [14, 16, 17, 18, 19, 20, 21, 22, 23, 24, 25, 26, 27, 28, 29, 30, 31, 32] (by kernel_rfl) (hS.sub (by (repeat (first | exact Sub.nil | with_reducible exact Sub.refl | (refine Sub.cons (by (repeat (first | with_reducible exact Pull.head | apply Pull.tail))) ?_) | apply Sub.skip))))
                  case hfr => intro w hS; (first | (refine wpl (by kernel_rfl) ?_; apply wp_load1A hS 3 _ rfl _ _ rfl (one_of rfl) _ _; (case hp => (repeat (first | with_reducible exact Pull.head | apply Pull.tail))); (case hi => omega); refine put_move ?_; go_step) | (refine wpl (by kernel_rfl) ?_; apply wp_load1OI hS 3 _ rfl _ _ rfl (one_of rfl) _ _ _ _ _; (case hp => (repeat (first | with_reducible exact Pull.head | apply Pull.tail))); (case hi => omega); refine put_move ?_; go_step) | (refine wpl (by kernel_rfl) ?_; apply wp_load1 hS 3 _ rfl _ _ rfl (one_of rfl) _; (case hp => (repeat (first | with_reducible exact Pull.head | apply Pull.tail))); (case hc => rfl); refine put_move ?_; go_step) | (refine wpl (by kernel_rfl) ?_; apply wp_load1O hS 3 _ rfl _ _ rfl (one_of rfl) _ _ _ _ _; (case hp => (repeat (first | with_reducible exact Pull.head | apply Pull.tail))); (case hv => with_reducible assumption); refine put_move ?_; go_step) | (refine wpl (by kernel_rfl) ?_; apply wp_loadW hS 3 _ rfl _ rfl (one_of rfl) _; (case hc => with_reducible assumption); refine put_move ?_; go_step) | (refine wpl (by kernel_rfl) ?_; apply wp_load1R hS 3 _ rfl _ _ _ rfl (one_of rfl) _ _; (case hl => with_reducible assumption); (case hr => with_reducible assumption); (case hf => omega); refine put_move ?_; go_step) | (refine wpl (by kernel_rfl) ?_; apply wp_load1R0 hS 3 _ rfl _ _ rfl (one_of rfl) _ _; (case hl => with_reducible assumption); (case hr => with_reducible assumption); (case hf => omega); refine put_move ?_; go_step) | (refine wpl (by kernel_rfl) ?_; apply wp_load1P hS 3 _ rfl _ _ rfl (one_of rfl) _; (case hp => (repeat (first | with_reducible exact Pull.head | apply Pull.tail))); (case hi => (repeat (first | (apply AtI.head; (case hn => (first | (with_reducible assumption) | exact Len.rep | exact Len.set (by with_reducible assumption) | exact Len.set Len.rep | exact Len.set (Len.set Len.rep))); (case h => omega)) | (apply AtI.skipI; (case hn => (first | (with_reducible assumption) | exact Len.rep | exact Len.set (by with_reducible assumption) | exact Len.set Len.rep | exact Len.set (Len.set Len.rep))); (case h => omega); (case ho => rfl)) | apply AtI.skipV))); refine put_move ?_; go_step) | (refine wpl (by kernel_rfl) ?_; apply wp_loadVP hS 3 _ rfl _ _ rfl (one_of rfl) _; (case hp => (repeat (first | with_reducible exact Pull.head | apply Pull.tail))); (case hi => (repeat (first | exact AtV.head | (apply AtV.skipI; (case hn => (first | (with_reducible assumption) | exact Len.rep | exact Len.set (by with_reducible assumption) | exact Len.set Len.rep | exact Len.set (Len.set Len.rep))); (case h => omega); (case ho => rfl)) | apply AtV.skipV))); refine put_move ?_; go_step)); refine wpList_nil ?_; exact ⟨rfl, rfl⟩
                  case hd => rfl
                  first | (refine takeV 11 _ (by (repeat (first | with_reducible exact AtL.head | apply AtL.tail))) (by kernel_rfl) (by kernel_rfl) (by kernel_rfl) (by exact fun _ _ _ _ h => h) (V.fieldAddr fo32_1 rfl (by first | with_reducible exact Nat.zero_add _ | with_reducible exact Nat.add_zero _ | exact rfl)) rfl ?_)
                  go_step
                  apply takeS 12 (by (repeat (first | with_reducible exact AtL.head | apply AtL.tail))) (by kernel_rfl) (by kernel_rfl) (by kernel_rfl) (by exact fun _ _ _ _ h => h) [13, 14, 16, 17, 18, 19, 20, 21, 22, 23, 24, 25, 26, 27, 28, 29, 30, 31, 32] (by kernel_rfl) (hS.sub (by (repeat (first | exact Sub.nil | with_reducible exact Sub.refl | (refine Sub.cons (by (repeat (first | with_reducible exact Pull.head | apply Pull.tail))) ?_) | apply Sub.skip))))
                  case hfr => intro w hS; (first | (refine wpl (by kernel_rfl) ?_; apply wp_load1A hS 3 _ rfl _ _ rfl (one_of rfl) _ _; (case hp => (repeat (first | with_reducible exact Pull.head | apply Pull.tail))); (case hi => omega); refine put_move ?_; go_step) | (refine wpl (by kernel_rfl) ?_; apply wp_load1OI hS 3 _ rfl _ _ rfl (one_of rfl) _ _ _ _ _; (case hp => (repeat (first | with_reducible exact Pull.head | apply Pull.tail))); (case hi => omega); refine put_move ?_; go_step) | (refine wpl (by kernel_rfl) ?_; apply wp_load1 hS 3 _ rfl _ _ rfl (one_of rfl) _; (case hp => (repeat (first | with_reducible exact Pull.head | apply Pull.tail))); (case hc => rfl); refine put_move ?_; go_step) | (refine wpl (by kernel_rfl) ?_; apply wp_load1O hS 3 _ rfl _ _ rfl (one_of rfl) _ _ _ _ _; (case hp => (repeat (first | with_reducible exact Pull.head | apply Pull.tail))); (case hv => with_reducible assumption); refine put_move ?_; go_step) | (refine wpl (by kernel_rfl) ?_; apply wp_loadW hS 3 _ rfl _ rfl (one_of rfl) _; (case hc => with_reducible assumption); refine put_move ?_; go_step) | (refine wpl (by kernel_rfl) ?_; apply wp_load1R hS 3 _ rfl _ _ _ rfl (one_of rfl) _ _; (case hl => with_reducible assumption); (case hr => with_reducible assumption); (case hf => omega); refine put_move ?_; go_step) | (refine wpl (by kernel_rfl) ?_; apply wp_load1R0 hS 3 _ rfl _ _ rfl (one_of rfl) _ _; (case hl => with_reducible assumption); (case hr => with_reducible assumption); (case hf => omega); refine put_move ?_; go_step) | (refine wpl (by kernel_rfl) ?_; apply wp_load1P hS 3 _ rfl _ _ rfl (one_of rfl) _; (case hp => (repeat (first | with_reducible exact Pull.head | apply Pull.tail))); (case hi => (repeat (first | (apply AtI.head; (case hn => (first | (with_reducible assumption) | exact Len.rep | exact Len.set (by with_reducible assumption) | exact Len.set Len.rep | exact Len.set (Len.set Len.rep))); (case h => omega)) | (apply AtI.skipI; (case hn => (first | (with_reducible assumption) | exact Len.rep | exact Len.set (by with_reducible assumption) | exact Len.set Len.rep | exact Len.set (Len.set Len.rep))); (case h => omega); (case ho => rfl)) | apply AtI.skipV))); refine put_move ?_; go_step) | (refine wpl (by kernel_rfl) ?_; apply wp_loadVP hS 3 _ rfl _ _ rfl (one_of rfl) _; (case hp => (repeat (first | with_reducible exact Pull.head | apply Pull.tail))); (case hi => (repeat (first | exact AtV.head | (apply AtV.skipI; (case hn => (first | (with_reducible assumption) | exact Len.rep | exact Len.set (by with_reducible assumption) | exact Len.set Len.rep | exact Len.set (Len.set Len.rep))); (case h => omega); (case ho => rfl)) | apply AtV.skipV))); refine put_move ?_; go_step)); refine wpList_nil ?_; exact ⟨rfl, rfl⟩
                  case hd => rfl
                  first | (refine takeV 13 _ (by (repeat (first | with_reducible exact AtL.head | apply AtL.tail))) (by kernel_rfl) (by kernel_rfl) (by kernel_rfl) (by exact fun _ _ _ _ h => h) (V.subI rfl rfl (by omega)) rfl ?_) | (refine takeV 13 _ (by (repeat (first | with_reducible exact AtL.head | apply AtL.tail))) (by kernel_rfl) (by kernel_rfl) (by kernel_rfl) (by exact fun _ _ _ _ h => h) (V.subR (by decide) rfl rfl) rfl ?_)
                  go_step
                  refine takeV 14 _ (by (repeat (first | with_reducible exact AtL.head | apply AtL.tail))) (by kernel_rfl) (by kernel_rfl) (by kernel_rfl) (by exact fun _ _ _ _ h => h) (V.as (V.shlI (j := 16 - la) rfl rfl (IsN.sub IsN.auto IsN.auto (by omega)) (by omega) (by rw [HR.out]; omega)) HR.out) rfl ?_
                  go_step
                  refine takeM 15 _ (by (repeat (first | with_reducible exact AtL.head | apply AtL.tail))) (by kernel_rfl) (by kernel_rfl) (by kernel_rfl) (by exact fun _ _ _ _ h => h) rfl ?_
                  go_step
                  first | (refine takeD 16 _ (by (repeat (first | with_reducible exact AtL.head | apply AtL.tail))) (by kernel_rfl) (by kernel_rfl) (by kernel_rfl) (by exact fun _ _ _ _ h => h) (V.neq rfl rfl) rfl (fun hB => ?_) (fun hB => ?_)) | (refine takeB 16 _ (by (repeat (first | with_reducible exact AtL.head | apply AtL.tail))) (by kernel_rfl) (by kernel_rfl) (by kernel_rfl) (by exact fun _ _ _ _ h => h) (V.neq rfl rfl) rfl (fun hB => ?_) (fun hB => ?_))
                  rotate_left 1
                  focus
                    (try (have hF : False := (by omega); cases hF))
                    all_goals
                      go_step
                      refine takePickF 17 (by (repeat (first | with_reducible exact AtL.head | apply AtL.tail))) (by kernel_rfl) (by kernel_rfl) (by kernel_rfl) (by exact fun _ _ _ _ h => h) rfl rfl ?_
                      go_step
                      refine takeM 18 _ (by (repeat (first | with_reducible exact AtL.head | apply AtL.tail))) (by kernel_rfl) (by kernel_rfl) (by kernel_rfl) (by exact fun _ _ _ _ h => h) rfl ?_
                      go_step
                      refine takeM 19 _ (by (repeat (first | with_reducible exact AtL.head | apply AtL.tail))) (by kernel_rfl) (by kernel_rfl) (by kernel_rfl) (by exact fun _ _ _ _ h => h) rfl ?_
                      go_step
                      first | (refine takeD 20 _ (by (repeat (first | with_reducible exact AtL.head | apply AtL.tail))) (by kernel_rfl) (by kernel_rfl) (by kernel_rfl) (by exact fun _ _ _ _ h => h) (V.gtr rfl rfl) rfl (fun hB => ?_) (fun hB => ?_)) | (refine takeB 20 _ (by (repeat (first | with_reducible exact AtL.head | apply AtL.tail))) (by kernel_rfl) (by kernel_rfl) (by kernel_rfl) (by exact fun _ _ _ _ h => h) (V.gtr rfl rfl) rfl (fun hB => ?_) (fun hB => ?_))
                      rotate_left 1
                      focus
                        (try (have hF : False := (by omega); cases hF))
                        all_goals
                          go_step
                          refine takeM 21 _ (by (repeat (first | with_reducible exact AtL.head | apply AtL.tail))) (by kernel_rfl) (by kernel_rfl) (by kernel_rfl) (by exact fun _ _ _ _ h => h) rfl ?_
                          go_step
                          refine takeN 22 (by (repeat (first | with_reducible exact AtL.head | apply AtL.tail))) (by kernel_rfl) (by kernel_rfl) (by kernel_rfl) (by exact fun _ _ _ _ h => h) rfl ?_
                          go_step
                          refine takeN 23 (by (repeat (first | with_reducible exact AtL.head | apply AtL.tail))) (by kernel_rfl) (by kernel_rfl) (by kernel_rfl) (by exact fun _ _ _ _ h => h) rfl ?_
                          go_step
                          refine takeN 24 (by (repeat (first | with_reducible exact AtL.head | apply AtL.tail))) (by kernel_rfl) (by kernel_rfl) (by kernel_rfl) (by exact fun _ _ _ _ h => h) rfl ?_
                          go_step
                          refine takeN 25 (by (repeat (first | with_reducible exact AtL.head | apply AtL.tail))) (by kernel_rfl) (by kernel_rfl) (by kernel_rfl) (by exact fun _ _ _ _ h => h) rfl ?_
                          go_step
                          refine takeN 26 (by (repeat (first | with_reducible exact AtL.head | apply AtL.tail))) (by kernel_rfl) (by kernel_rfl) (by kernel_rfl) (by exact fun _ _ _ _ h => h) rfl ?_
                          go_step
                          refine takeN 27 (by (repeat (first | with_reducible exact AtL.head | apply AtL.tail))) (by kernel_rfl) (by kernel_rfl) (by kernel_rfl) (by exact fun _ _ _ _ h => h) rfl ?_
                          go_step
                          refine takeN 28 (by (repeat (first | with_reducible exact AtL.head | apply AtL.tail))) (by kernel_rfl) (by kernel_rfl) (by kernel_rfl) (by exact fun _ _ _ _ h => h) rfl ?_
                          go_step
                          refine takeN 29 (by (repeat (first | with_reducible exact AtL.head | apply AtL.tail))) (by kernel_rfl) (by kernel_rfl) (by kernel_rfl) (by exact fun _ _ _ _ h => h) rfl ?_
                          go_step
                          refine takeN 30 (by (repeat (first | with_reducible exact AtL.head | apply AtL.tail))) (by kernel_rfl) (by kernel_rfl) (by kernel_rfl) (by exact fun _ _ _ _ h => h) rfl ?_
                          go_step
                          refine takePickF 31 (by (repeat (first | with_reducible exact AtL.head | apply AtL.tail))) (by kernel_rfl) (by kernel_rfl) (by kernel_rfl) (by exact fun _ _ _ _ h => h) rfl rfl ?_
                          go_step
                          refine takePickF 32 (by (repeat (first | with_reducible exact AtL.head | apply AtL.tail))) (by kernel_rfl) (by kernel_rfl) (by kernel_rfl) (by exact fun _ _ _ _ h => h) rfl rfl ?_
                          go_step
                          refine drawn_done (by kernel_rfl) ?_ _
                      rotate_right 1
                      focus
                        (try (have hF : False := (by omega); cases hF))
                        all_goals
                          go_step
                          refine takeM 21 _ (by (repeat (first | with_reducible exact AtL.head | apply AtL.tail))) (by kernel_rfl) (by kernel_rfl) (by kernel_rfl) (by exact fun _ _ _ _ h => h) rfl ?_
                          go_step
                          refine takeM 22 _ (by (repeat (first | with_reducible exact AtL.head | apply AtL.tail))) (by kernel_rfl) (by kernel_rfl) (by kernel_rfl) (by exact fun _ _ _ _ h => h) rfl ?_
                          go_step
                          refine takeM 23 _ (by (repeat (first | with_reducible exact AtL.head | apply AtL.tail))) (by kernel_rfl) (by kernel_rfl) (by kernel_rfl) (by exact fun _ _ _ _ h => h) rfl ?_
                          go_step
                          first | (refine takeV 24 _ (by (repeat (first | with_reducible exact AtL.head | apply AtL.tail))) (by kernel_rfl) (by kernel_rfl) (by kernel_rfl) (by exact fun _ _ _ _ h => h) (V.subI rfl rfl (by omega)) rfl ?_) | (refine takeV 24 _ (by (repeat (first | with_reducible exact AtL.head | apply AtL.tail))) (by kernel_rfl) (by kernel_rfl) (by kernel_rfl) (by exact fun _ _ _ _ h => h) (V.subR (by decide) rfl rfl) rfl ?_)
                          go_step
                          first | (refine takeV 25 _ (by (repeat (first | with_reducible exact AtL.head | apply AtL.tail))) (by kernel_rfl) (by kernel_rfl) (by kernel_rfl) (by exact fun _ _ _ _ h => h) (V.indexSl Try.underlying27 isz32 rfl rfl (by (repeat (first | exact IsN.auto | with_reducible apply IsN.add | with_reducible apply IsN.sub | with_reducible apply IsN.mul | with_reducible apply IsN.div | with_reducible apply IsN.mod | with_reducible apply IsN.min | with_reducible apply IsN.max | (with_reducible show (_ : Nat) ≤ _; omega) | exact IsN.toNat (by omega)))) (by omega) rfl (by first | with_reducible exact Nat.zero_add _ | with_reducible exact Nat.add_zero _ | exact rfl)) rfl ?_)
                          go_step
                          first | (refine takeV 26 _ (by (repeat (first | with_reducible exact AtL.head | apply AtL.tail))) (by kernel_rfl) (by kernel_rfl) (by kernel_rfl) (by exact fun _ _ _ _ h => h) (V.fieldAddr fo32_1 rfl (by first | with_reducible exact Nat.zero_add _ | with_reducible exact Nat.add_zero _ | exact rfl)) rfl ?_)
                          go_step
                          apply takeS 27 (by (repeat (first | with_reducible exact AtL.head | apply AtL.tail))) (by kernel_rfl) (by kernel_rfl) (by kernel_rfl) (by exact fun _ _ _ _ h => h) [30, 31, 32] (by kernel_rfl) (hS.sub (by (repeat (first | exact Sub.nil | with_reducible exact Sub.refl | (refine Sub.cons (by (repeat (first | with_reducible exact Pull.head | apply Pull.tail))) ?_) | apply Sub.skip))))
                          case hfr => intro w hS; (first | (refine wpl (by kernel_rfl) ?_; apply wp_load1A hS 3 _ rfl _ _ rfl (one_of rfl) _ _; (case hp => (repeat (first | with_reducible exact Pull.head | apply Pull.tail))); (case hi => omega); refine put_move ?_; go_step) | (refine wpl (by kernel_rfl) ?_; apply wp_load1OI hS 3 _ rfl _ _ rfl (one_of rfl) _ _ _ _ _; (case hp => (repeat (first | with_reducible exact Pull.head | apply Pull.tail))); (case hi => omega); refine put_move ?_; go_step) | (refine wpl (by kernel_rfl) ?_; apply wp_load1 hS 3 _ rfl _ _ rfl (one_of rfl) _; (case hp => (repeat (first | with_reducible exact Pull.head | apply Pull.tail))); (case hc => rfl); refine put_move ?_; go_step) | (refine wpl (by kernel_rfl) ?_; apply wp_load1O hS 3 _ rfl _ _ rfl (one_of rfl) _ _ _ _ _; (case hp => (repeat (first | with_reducible exact Pull.head | apply Pull.tail))); (case hv => with_reducible assumption); refine put_move ?_; go_step) | (refine wpl (by kernel_rfl) ?_; apply wp_loadW hS 3 _ rfl _ rfl (one_of rfl) _; (case hc => with_reducible assumption); refine put_move ?_; go_step) | (refine wpl (by kernel_rfl) ?_; apply wp_load1R hS 3 _ rfl _ _ _ rfl (one_of rfl) _ _; (case hl => with_reducible assumption); (case hr => with_reducible assumption); (case hf => omega); refine put_move ?_; go_step) | (refine wpl (by kernel_rfl) ?_; apply wp_load1R0 hS 3 _ rfl _ _ rfl (one_of rfl) _ _; (case hl => with_reducible assumption); (case hr => with_reducible assumption); (case hf => omega); refine put_move ?_; go_step) | (refine wpl (by kernel_rfl) ?_; apply wp_load1P hS 3 _ rfl _ _ rfl (one_of rfl) _; (case hp => (repeat (first | with_reducible exact Pull.head | apply Pull.tail))); (case hi => (repeat (first | (apply AtI.head; (case hn => (first | (with_reducible assumption) | exact Len.rep | exact Len.set (by with_reducible assumption) | exact Len.set Len.rep | exact Len.set (Len.set Len.rep))); (case h => omega)) | (apply AtI.skipI; (case hn => (first | (with_reducible assumption) | exact Len.rep | exact Len.set (by with_reducible assumption) | exact Len.set Len.rep | exact Len.set (Len.set Len.rep))); (case h => omega); (case ho => rfl)) | apply AtI.skipV))); refine put_move ?_; go_step) | (refine wpl (by kernel_rfl) ?_; apply wp_loadVP hS 3 _ rfl _ _ rfl (one_of rfl) _; (case hp => (repeat (first | with_reducible exact Pull.head | apply Pull.tail))); (case hi => (repeat (first | exact AtV.head | (apply AtV.skipI; (case hn => (first | (with_reducible assumption) | exact Len.rep | exact Len.set (by with_reducible assumption) | exact Len.set Len.rep | exact Len.set (Len.set Len.rep))); (case h => omega); (case ho => rfl)) | apply AtV.skipV))); refine put_move ?_; go_step)); refine wpList_nil ?_; exact ⟨rfl, rfl⟩
                          case hd => rfl
                          first | (refine takeV 28 _ (by (repeat (first | with_reducible exact AtL.head | apply AtL.tail))) (by kernel_rfl) (by kernel_rfl) (by kernel_rfl) (by exact fun _ _ _ _ h => h) (V.fieldAddr fo32_1 rfl (by first | with_reducible exact Nat.zero_add _ | with_reducible exact Nat.add_zero _ | exact rfl)) rfl ?_)
                          go_step
                          apply takeS 29 (by (repeat (first | with_reducible exact AtL.head | apply AtL.tail))) (by kernel_rfl) (by kernel_rfl) (by kernel_rfl) (by exact fun _ _ _ _ h => h) [30, 31, 32] (by kernel_rfl) (hS.sub (by (repeat (first | exact Sub.nil | with_reducible exact Sub.refl | (refine Sub.cons (by (repeat (first | with_reducible exact Pull.head | apply Pull.tail))) ?_) | apply Sub.skip))))
                          case hfr => intro w hS; (first | (refine wpl (by kernel_rfl) ?_; apply wp_load1A hS 3 _ rfl _ _ rfl (one_of rfl) _ _; (case hp => (repeat (first | with_reducible exact Pull.head | apply Pull.tail))); (case hi => omega); refine put_move ?_; go_step) | (refine wpl (by kernel_rfl) ?_; apply wp_load1OI hS 3 _ rfl _ _ rfl (one_of rfl) _ _ _ _ _; (case hp => (repeat (first | with_reducible exact Pull.head | apply Pull.tail))); (case hi => omega); refine put_move ?_; go_step) | (refine wpl (by kernel_rfl) ?_; apply wp_load1 hS 3 _ rfl _ _ rfl (one_of rfl) _; (case hp => (repeat (first | with_reducible exact Pull.head | apply Pull.tail))); (case hc => rfl); refine put_move ?_; go_step) | (refine wpl (by kernel_rfl) ?_; apply wp_load1O hS 3 _ rfl _ _ rfl (one_of rfl) _ _ _ _ _; (case hp => (repeat (first | with_reducible exact Pull.head | apply Pull.tail))); (case hv => with_reducible assumption); refine put_move ?_; go_step) | (refine wpl (by kernel_rfl) ?_; apply wp_loadW hS 3 _ rfl _ rfl (one_of rfl) _; (case hc => with_reducible assumption); refine put_move ?_; go_step) | (refine wpl (by kernel_rfl) ?_; apply wp_load1R hS 3 _ rfl _ _ _ rfl (one_of rfl) _ _; (case hl => with_reducible assumption); (case hr => with_reducible assumption); (case hf => omega); refine put_move ?_; go_step) | (refine wpl (by kernel_rfl) ?_; apply wp_load1R0 hS 3 _ rfl _ _ rfl (one_of rfl) _ _; (case hl => with_reducible assumption); (case hr => with_reducible assumption); (case hf => omega); refine put_move ?_; go_step) | (refine wpl (by kernel_rfl) ?_; apply wp_load1P hS 3 _ rfl _ _ rfl (one_of rfl) _; (case hp => (repeat (first | with_reducible exact Pull.head | apply Pull.tail))); (case hi => (repeat (first | (apply AtI.head; (case hn => (first | (with_reducible assumption) | exact Len.rep | exact Len.set (by with_reducible assumption) | exact Len.set Len.rep | exact Len.set (Len.set Len.rep))); (case h => omega)) | (apply AtI.skipI; (case hn => (first | (with_reducible assumption) | exact Len.rep | exact Len.set (by with_reducible assumption) | exact Len.set Len.rep | exact Len.set (Len.set Len.rep))); (case h => omega); (case ho => rfl)) | apply AtI.skipV))); refine put_move ?_; go_step) | (refine wpl (by kernel_rfl) ?_; apply wp_loadVP hS 3 _ rfl _ _ rfl (one_of rfl) _; (case hp => (repeat (first | with_reducible exact Pull.head | apply Pull.tail))); (case hi => (repeat (first | exact AtV.head | (apply AtV.skipI; (case hn => (first | (with_reducible assumption) | exact Len.rep | exact Len.set (by with_reducible assumption) | exact Len.set Len.rep | exact Len.set (Len.set Len.rep))); (case h => omega); (case ho => rfl)) | apply AtV.skipV))); refine put_move ?_; go_step)); refine wpList_nil ?_; exact ⟨rfl, rfl⟩
                          case hd => rfl
                          first | (refine takeV 30 _ (by (repeat (first | with_reducible exact AtL.head | apply AtL.tail))) (by kernel_rfl) (by kernel_rfl) (by kernel_rfl) (by exact fun _ _ _ _ h => h) (V.gtr rfl rfl) rfl ?_)
                          go_step
                          refine takePickT 31 (by (repeat (first | with_reducible exact AtL.head | apply AtL.tail))) (by kernel_rfl) (by kernel_rfl) (by kernel_rfl) (by exact fun _ _ _ _ h => h) rfl rfl ?_
                          go_step
                          refine takePickF 32 (by (repeat (first | with_reducible exact AtL.head | apply AtL.tail))) (by kernel_rfl) (by kernel_rfl) (by kernel_rfl) (by exact fun _ _ _ _ h => h) rfl rfl ?_
                          go_step
                          refine drawn_done (by kernel_rfl) ?_ _
                  rotate_right 1
                  focus
                    (try (have hF : False := (by omega); cases hF))
                    all_goals
                      go_step
                      refine takePickF 17 (by (repeat (first | with_reducible exact AtL.head | apply AtL.tail))) (by kernel_rfl) (by kernel_rfl) (by kernel_rfl) (by exact fun _ _ _ _ h => h) rfl rfl ?_
                      go_step
                      refine takeM 18 _ (by (repeat (first | with_reducible exact AtL.head | apply AtL.tail))) (by kernel_rfl) (by kernel_rfl) (by kernel_rfl) (by exact fun _ _ _ _ h => h) rfl ?_
                      go_step
                      refine takeN 19 (by (repeat (first | with_reducible exact AtL.head | apply AtL.tail))) (by kernel_rfl) (by kernel_rfl) (by kernel_rfl) (by exact fun _ _ _ _ h => h) rfl ?_
                      go_step
                      refine takeN 20 (by (repeat (first | with_reducible exact AtL.head | apply AtL.tail))) (by kernel_rfl) (by kernel_rfl) (by kernel_rfl) (by exact fun _ _ _ _ h => h) rfl ?_
                      go_step
                      refine takeN 21 (by (repeat (first | with_reducible exact AtL.head | apply AtL.tail))) (by kernel_rfl) (by kernel_rfl) (by kernel_rfl) (by exact fun _ _ _ _ h => h) rfl ?_
                      go_step
                      refine takeN 22 (by (repeat (first | with_reducible exact AtL.head | apply AtL.tail))) (by kernel_rfl) (by kernel_rfl) (by kernel_rfl) (by exact fun _ _ _ _ h => h) rfl ?_
                      go_step
                      refine takeN 23 (by (repeat (first | with_reducible exact AtL.head | apply AtL.tail))) (by kernel_rfl) (by kernel_rfl) (by kernel_rfl) (by exact fun _ _ _ _ h => h) rfl ?_
                      go_step
                      refine takeN 24 (by (repeat (first | with_reducible exact AtL.head | apply AtL.tail))) (by kernel_rfl) (by kernel_rfl) (by kernel_rfl) (by exact fun _ _ _ _ h => h) rfl ?_
                      go_step
                      refine takeN 25 (by (repeat (first | with_reducible exact AtL.head | apply AtL.tail))) (by kernel_rfl) (by kernel_rfl) (by kernel_rfl) (by exact fun _ _ _ _ h => h) rfl ?_
                      go_step
                      refine takeN 26 (by (repeat (first | with_reducible exact AtL.head | apply AtL.tail))) (by kernel_rfl) (by kernel_rfl) (by kernel_rfl) (by exact fun _ _ _ _ h => h) rfl ?_
                      go_step
                      refine takeN 27 (by (repeat (first | with_reducible exact AtL.head | apply AtL.tail))) (by kernel_rfl) (by kernel_rfl) (by kernel_rfl) (by exact fun _ _ _ _ h => h) rfl ?_
                      go_step
                      refine takeN 28 (by (repeat (first | with_reducible exact AtL.head | apply AtL.tail))) (by kernel_rfl) (by kernel_rfl) (by kernel_rfl) (by exact fun _ _ _ _ h => h) rfl ?_
                      go_step
                      refine takeN 29 (by (repeat (first | with_reducible exact AtL.head | apply AtL.tail))) (by kernel_rfl) (by kernel_rfl) (by kernel_rfl) (by exact fun _ _ _ _ h => h) rfl ?_
                      go_step
                      refine takeN 30 (by (repeat (first | with_reducible exact AtL.head | apply AtL.tail))) (by kernel_rfl) (by kernel_rfl) (by kernel_rfl) (by exact fun _ _ _ _ h => h) rfl ?_
                      go_step
                      refine takeN 31 (by (repeat (first | with_reducible exact AtL.head | apply AtL.tail))) (by kernel_rfl) (by kernel_rfl) (by kernel_rfl) (by exact fun _ _ _ _ h => h) rfl ?_
                      go_step
                      refine takePickT 32 (by (repeat (first | with_reducible exact AtL.head | apply AtL.tail))) (by kernel_rfl) (by kernel_rfl) (by kernel_rfl) (by exact fun _ _ _ _ h => h) rfl rfl ?_
                      go_step
                      refine drawn_done (by kernel_rfl) ?_ _
              rotate_right 1
              focus
                (try (have hF : False := (by omega); cases hF))
                all_goals
                  go_step
                  refine takePickF 7 (by (repeat (first | with_reducible exact AtL.head | apply AtL.tail))) (by kernel_rfl) (by kernel_rfl) (by kernel_rfl) (by exact fun _ _ _ _ h => h) rfl rfl ?_
                  go_step
                  refine takeM 8 _ (by (repeat (first | with_reducible exact AtL.head | apply AtL.tail))) (by kernel_rfl) (by kernel_rfl) (by kernel_rfl) (by exact fun _ _ _ _ h => h) rfl ?_
                  go_step
                  refine takeN 9 (by (repeat (first | with_reducible exact AtL.head | apply AtL.tail))) (by kernel_rfl) (by kernel_rfl) (by kernel_rfl) (by exact fun _ _ _ _ h => h) rfl ?_
                  go_step
                  refine takeN 10 (by (repeat (first | with_reducible exact AtL.head | apply AtL.tail))) (by kernel_rfl) (by kernel_rfl) (by kernel_rfl) (by exact fun _ _ _ _ h => h) rfl ?_
                  go_step
                  refine takeN 11 (by (repeat (first | with_reducible exact AtL.head | apply AtL.tail))) (by kernel_rfl) (by kernel_rfl) (by kernel_rfl) (by exact fun _ _ _ _ h => h) rfl ?_
                  go_step
                  refine takeN 12 (by (repeat (first | with_reducible exact AtL.head | apply AtL.tail))) (by kernel_rfl) (by kernel_rfl) (by kernel_rfl) (by exact fun _ _ _ _ h => h) rfl ?_
                  go_step
                  refine takeN 13 (by (repeat (first | with_reducible exact AtL.head | apply AtL.tail))) (by kernel_rfl) (by kernel_rfl) (by kernel_rfl) (by exact fun _ _ _ _ h => h) rfl ?_
                  go_step
                  refine takeN 14 (by (repeat (first | with_reducible exact AtL.head | apply AtL.tail))) (by kernel_rfl) (by kernel_rfl) (by kernel_rfl) (by exact fun _ _ _ _ h => h) rfl ?_
                  go_step
                  refine takeN 15 (by (repeat (first | with_reducible exact AtL.head | apply AtL.tail))) (by kernel_rfl) (by kernel_rfl) (by kernel_rfl) (by exact fun _ _ _ _ h => h) rfl ?_
                  go_step
                  refine takeN 16 (by (repeat (first | with_reducible exact AtL.head | apply AtL.tail))) (by kernel_rfl) (by kernel_rfl) (by kernel_rfl) (by exact fun _ _ _ _ h => h) rfl ?_
                  go_step
                  refine takePickT 17 (by (repeat (first | with_reducible exact AtL.head | apply AtL.tail))) (by kernel_rfl) (by kernel_rfl) (by kernel_rfl) (by exact fun _ _ _ _ h => h) rfl rfl ?_
                  go_step
                  refine takeM 18 _ (by (repeat (first | with_reducible exact AtL.head | apply AtL.tail))) (by kernel_rfl) (by kernel_rfl) (by kernel_rfl) (by exact fun _ _ _ _ h => h) rfl ?_
                  go_step
                  refine takeN 19 (by (repeat (first | with_reducible exact AtL.head | apply AtL.tail))) (by kernel_rfl) (by kernel_rfl) (by kernel_rfl) (by exact fun _ _ _ _ h => h) rfl ?_
                  go_step
                  refine takeN 20 (by (repeat (first | with_reducible exact AtL.head | apply AtL.tail))) (by kernel_rfl) (by kernel_rfl) (by kernel_rfl) (by exact fun _ _ _ _ h => h) rfl ?_
                  go_step
                  refine takeN 21 (by (repeat (first | with_reducible exact AtL.head | apply AtL.tail))) (by kernel_rfl) (by kernel_rfl) (by kernel_rfl) (by exact fun _ _ _ _ h => h) rfl ?_
                  go_step
                  refine takeN 22 (by (repeat (first | with_reducible exact AtL.head | apply AtL.tail))) (by kernel_rfl) (by kernel_rfl) (by kernel_rfl) (by exact fun _ _ _ _ h => h) rfl ?_
                  go_step
                  refine takeN 23 (by (repeat (first | with_reducible exact AtL.head | apply AtL.tail))) (by kernel_rfl) (by kernel_rfl) (by kernel_rfl) (by exact fun _ _ _ _ h => h) rfl ?_
                  go_step
                  refine takeN 24 (by (repeat (first | with_reducible exact AtL.head | apply AtL.tail))) (by kernel_rfl) (by kernel_rfl) (by kernel_rfl) (by exact fun _ _ _ _ h => h) rfl ?_
                  go_step
                  refine takeN 25 (by (repeat (first | with_reducible exact AtL.head | apply AtL.tail))) (by kernel_rfl) (by kernel_rfl) (by kernel_rfl) (by exact fun _ _ _ _ h => h) rfl ?_
                  go_step
                  refine takeN 26 (by (repeat (first | with_reducible exact AtL.head | apply AtL.tail))) (by kernel_rfl) (by kernel_rfl) (by kernel_rfl) (by exact fun _ _ _ _ h => h) rfl ?_
                  go_step
                  refine takeN 27 (by (repeat (first | with_reducible exact AtL.head | apply AtL.tail))) (by kernel_rfl) (by kernel_rfl) (by kernel_rfl) (by exact fun _ _ _ _ h => h) rfl ?_
                  go_step
                  refine takeN 28 (by (repeat (first | with_reducible exact AtL.head | apply AtL.tail))) (by kernel_rfl) (by kernel_rfl) (by kernel_rfl) (by exact fun _ _ _ _ h => h) rfl ?_
                  go_step
                  refine takeN 29 (by (repeat (first | with_reducible exact AtL.head | apply AtL.tail))) (by kernel_rfl) (by kernel_rfl) (by kernel_rfl) (by exact fun _ _ _ _ h => h) rfl ?_
                  go_step
                  refine takeN 30 (by (repeat (first | with_reducible exact AtL.head | apply AtL.tail))) (by kernel_rfl) (by kernel_rfl) (by kernel_rfl) (by exact fun _ _ _ _ h => h) rfl ?_
                  go_step
                  refine takeN 31 (by (repeat (first | with_reducible exact AtL.head | apply AtL.tail))) (by kernel_rfl) (by kernel_rfl) (by kernel_rfl) (by exact fun _ _ _ _ h => h) rfl ?_
                  go_step
                  refine takePickT 32 (by (repeat (first | with_reducible exact AtL.head | apply AtL.tail))) (by kernel_rfl) (by kernel_rfl) (by kernel_rfl) (by exact fun _ _ _ _ h => h) rfl rfl ?_
                  go_step
                  refine drawn_done (by kernel_rfl) ?_ _
          rotate_right 1
          focus
            (try (have hF : False := (by omega); cases hF))
            all_goals
              go_step
              refine takeM 3 _ (by (repeat (first | with_reducible exact AtL.head | apply AtL.tail))) (by kernel_rfl) (by kernel_rfl) (by kernel_rfl) (by exact fun _ _ _ _ h => h) rfl ?_
              go_step
              refine takeN 4 (by (repeat (first | with_reducible exact AtL.head | apply AtL.tail))) (by kernel_rfl) (by kernel_rfl) (by kernel_rfl) (by exact fun _ _ _ _ h => h) rfl ?_
              go_step
              refine takeN 5 (by (repeat (first | with_reducible exact AtL.head | apply AtL.tail))) (by kernel_rfl) (by kernel_rfl) (by kernel_rfl) (by exact fun _ _ _ _ h => h) rfl ?_
              go_step
              refine takeN 6 (by (repeat (first | with_reducible exact AtL.head | apply AtL.tail))) (by kernel_rfl) (by kernel_rfl) (by kernel_rfl) (by exact fun _ _ _ _ h => h) rfl ?_
              go_step
              refine takePickT 7 (by (repeat (first | with_reducible exact AtL.head | apply AtL.tail))) (by kernel_rfl) (by kernel_rfl) (by kernel_rfl) (by exact fun _ _ _ _ h => h) rfl rfl ?_
              go_step
              refine takeM 8 _ (by (repeat (first | with_reducible exact AtL.head | apply AtL.tail))) (by kernel_rfl) (by kernel_rfl) (by kernel_rfl) (by exact fun _ _ _ _ h => h) rfl ?_
              go_step
              refine takeN 9 (by (repeat (first | with_reducible exact AtL.head | apply AtL.tail))) (by kernel_rfl) (by kernel_rfl) (by kernel_rfl) (by exact fun _ _ _ _ h => h) rfl ?_
              go_step
              refine takeN 10 (by (repeat (first | with_reducible exact AtL.head | apply AtL.tail))) (by kernel_rfl) (by kernel_rfl) (by kernel_rfl) (by exact fun _ _ _ _ h => h) rfl ?_
              go_step
              refine takeN 11 (by (repeat (first | with_reducible exact AtL.head | apply AtL.tail))) (by kernel_rfl) (by kernel_rfl) (by kernel_rfl) (by exact fun _ _ _ _ h => h) rfl ?_
              go_step
              refine takeN 12 (by (repeat (first | with_reducible exact AtL.head | apply AtL.tail))) (by kernel_rfl) (by kernel_rfl) (by kernel_rfl) (by exact fun _ _ _ _ h => h) rfl ?_
              go_step
              refine takeN 13 (by (repeat (first | with_reducible exact AtL.head | apply AtL.tail))) (by kernel_rfl) (by kernel_rfl) (by kernel_rfl) (by exact fun _ _ _ _ h => h) rfl ?_
              go_step
              refine takeN 14 (by (repeat (first | with_reducible exact AtL.head | apply AtL.tail))) (by kernel_rfl) (by kernel_rfl) (by kernel_rfl) (by exact fun _ _ _ _ h => h) rfl ?_
              go_step
              refine takeN 15 (by (repeat (first | with_reducible exact AtL.head | apply AtL.tail))) (by kernel_rfl) (by kernel_rfl) (by kernel_rfl) (by exact fun _ _ _ _ h => h) rfl ?_
              go_step
              refine takeN 16 (by (repeat (first | with_reducible exact AtL.head | apply AtL.tail))) (by kernel_rfl) (by kernel_rfl) (by kernel_rfl) (by exact fun _ _ _ _ h => h) rfl ?_
              go_step
              refine takePickT 17 (by (repeat (first | with_reducible exact AtL.head | apply AtL.tail))) (by kernel_rfl) (by kernel_rfl) (by kernel_rfl) (by exact fun _ _ _ _ h => h) rfl rfl ?_
              go_step
              refine takeM 18 _ (by (repeat (first | with_reducible exact AtL.head | apply AtL.tail))) (by kernel_rfl) (by kernel_rfl) (by kernel_rfl) (by exact fun _ _ _ _ h => h) rfl ?_
              go_step
              refine takeN 19 (by (repeat (first | with_reducible exact AtL.head | apply AtL.tail))) (by kernel_rfl) (by kernel_rfl) (by kernel_rfl) (by exact fun _ _ _ _ h => h) rfl ?_
              go_step
              refine takeN 20 (by (repeat (first | with_reducible exact AtL.head | apply AtL.tail))) (by kernel_rfl) (by kernel_rfl) (by kernel_rfl) (by exact fun _ _ _ _ h => h) rfl ?_
              go_step
              refine takeN 21 (by (repeat (first | with_reducible exact AtL.head | apply AtL.tail))) (by kernel_rfl) (by kernel_rfl) (by kernel_rfl) (by exact fun _ _ _ _ h => h) rfl ?_
              go_step
              refine takeN 22 (by (repeat (first | with_reducible exact AtL.head | apply AtL.tail))) (by kernel_rfl) (by kernel_rfl) (by kernel_rfl) (by exact fun _ _ _ _ h => h) rfl ?_
              go_step
              refine takeN 23 (by (repeat (first | with_reducible exact AtL.head | apply AtL.tail))) (by kernel_rfl) (by kernel_rfl) (by kernel_rfl) (by exact fun _ _ _ _ h => h) rfl ?_
              go_step
              refine takeN 24 (by (repeat (first | with_reducible exact AtL.head | apply AtL.tail))) (by kernel_rfl) (by kernel_rfl) (by kernel_rfl) (by exact fun _ _ _ _ h => h) rfl ?_
              go_step
              refine takeN 25 (by (repeat (first | with_reducible exact AtL.head | apply AtL.tail))) (by kernel_rfl) (by kernel_rfl) (by kernel_rfl) (by exact fun _ _ _ _ h => h) rfl ?_
              go_step
              refine takeN 26 (by (repeat (first | with_reducible exact AtL.head | apply AtL.tail))) (by kernel_rfl) (by kernel_rfl) (by kernel_rfl) (by exact fun _ _ _ _ h => h) rfl ?_
              go_step
              refine takeN 27 (by (repeat (first | with_reducible exact AtL.head | apply AtL.tail))) (by kernel_rfl) (by kernel_rfl) (by kernel_rfl) (by exact fun _ _ _ _ h => h) rfl ?_
              go_step
              refine takeN 28 (by (repeat (first | with_reducible exact AtL.head | apply AtL.tail))) (by kernel_rfl) (by kernel_rfl) (by kernel_rfl) (by exact fun _ _ _ _ h => h) rfl ?_
              go_step
              refine takeN 29 (by (repeat (first | with_reducible exact AtL.head | apply AtL.tail))) (by kernel_rfl) (by kernel_rfl) (by kernel_rfl) (by exact fun _ _ _ _ h => h) rfl ?_
              go_step
              refine takeN 30 (by (repeat (first | with_reducible exact AtL.head | apply AtL.tail))) (by kernel_rfl) (by kernel_rfl) (by kernel_rfl) (by exact fun _ _ _ _ h => h) rfl ?_
              go_step
              refine takeN 31 (by (repeat (first | with_reducible exact AtL.head | apply AtL.tail))) (by kernel_rfl) (by kernel_rfl) (by kernel_rfl) (by exact fun _ _ _ _ h => h) rfl ?_
              go_step
              refine takePickT 32 (by (repeat (first | with_reducible exact AtL.head | apply AtL.tail))) (by kernel_rfl) (by kernel_rfl) (by kernel_rfl) (by exact fun _ _ _ _ h => h) rfl rfl ?_
              go_step
              refine drawn_done (by kernel_rfl) ?_ _
        all_goals
          repeat' (first
            | ((with_reducible show wpList _ _ _ (⟨some 61, .binOp .shl _ _ _ _, _, _, _, _⟩ :: _) _ _); first | (refine wplV (.int _ (((Q : Nat) : Int))) (V.as (V.shl1 rfl rfl (by (repeat (first | exact IsN.auto | with_reducible apply IsN.add | with_reducible apply IsN.sub | with_reducible apply IsN.mul | with_reducible apply IsN.div | with_reducible apply IsN.mod | with_reducible apply IsN.min | with_reducible apply IsN.max | (with_reducible show (_ : Nat) ≤ _; omega) | exact IsN.toNat (by omega)))) (by omega)) (by exact HQ.out)) rfl ?_; go_step) | (refine wplV (.int _ (((Q : Nat) : Int))) (V.as (V.shlI rfl rfl (by (repeat (first | exact IsN.auto | with_reducible apply IsN.add | with_reducible apply IsN.sub | with_reducible apply IsN.mul | with_reducible apply IsN.div | with_reducible apply IsN.mod | with_reducible apply IsN.min | with_reducible apply IsN.max | (with_reducible show (_ : Nat) ≤ _; omega) | exact IsN.toNat (by omega)))) (by omega) (by omega)) (by exact HQ.out)) rfl ?_; go_step) | (refine wplV (.int _ (((Q : Nat) : Int))) (V.as (V.shl rfl rfl (by (repeat (first | exact IsN.auto | with_reducible apply IsN.add | with_reducible apply IsN.sub | with_reducible apply IsN.mul | with_reducible apply IsN.div | with_reducible apply IsN.mod | with_reducible apply IsN.min | with_reducible apply IsN.max | (with_reducible show (_ : Nat) ≤ _; omega) | exact IsN.toNat (by omega)))) (by omega) rfl) (by exact HQ.out)) rfl ?_; go_step))
            | ((with_reducible show wpList _ _ _ (⟨some 62, .binOp .add _ _ _ _, _, _, _, _⟩ :: _) _ _); first | (refine wplV (.int _ (((R + Q : Nat) : Int))) (V.as (V.addI rfl rfl (by omega)) (by omega)) rfl ?_; go_step) | (refine wplV (.int _ (((R + Q : Nat) : Int))) (V.as (V.addR (by decide) rfl rfl) (by omega)) rfl ?_; go_step))
            | go_skip
            | go_big_skip
            | ((with_reducible show wpList _ _ _ (⟨_, .move _, _, _, _, _⟩ :: _) _ _); (first | go_big_want | go_step); go_step)
            | ((with_reducible show wpList _ _ _ (⟨_, .assign _, _, _, _, _⟩ :: _) _ _); (first | go_big_want | go_step); go_step)
            | ((with_reducible show wpList _ _ _ (⟨_, .pick _ _ _, _, _, _, _⟩ :: _) _ _); first | (refine wplPickT rfl (by kernel_rfl) ?_; go_step) | (refine wplPickF rfl (by kernel_rfl) ?_; go_step))
            | ((with_reducible show wpList _ _ _ (⟨_, .fieldAddr 32 _ 1, _, _, _, _⟩ :: _) _ _); first | (refine wplV _ (V.fieldAddr fo32_1 rfl (by first | with_reducible exact Nat.zero_add _ | with_reducible exact Nat.add_zero _ | exact rfl)) (by kernel_rfl) ?_; go_step))
            | ((with_reducible show wpList _ _ _ (⟨_, .binOp .sub _ _ _ _, _, _, _, _⟩ :: _) _ _); first | (refine wplV _ (V.subI rfl rfl (by omega)) (by kernel_rfl) ?_; go_step) | (refine wplV _ (V.subR (by decide) rfl rfl) (by kernel_rfl) ?_; go_step))
            | ((with_reducible show wpList _ _ _ (⟨_, .binOp .shl _ _ _ _, _, _, _, _⟩ :: _) _ _); first | (refine wplV _ (V.shl1 rfl rfl (by (repeat (first | exact IsN.auto | with_reducible apply IsN.add | with_reducible apply IsN.sub | with_reducible apply IsN.mul | with_reducible apply IsN.div | with_reducible apply IsN.mod | with_reducible apply IsN.min | with_reducible apply IsN.max | (with_reducible show (_ : Nat) ≤ _; omega) | exact IsN.toNat (by omega)))) (by omega)) (by kernel_rfl) ?_; go_step) | (refine wplV _ (V.shlI rfl rfl (by (repeat (first | exact IsN.auto | with_reducible apply IsN.add | with_reducible apply IsN.sub | with_reducible apply IsN.mul | with_reducible apply IsN.div | with_reducible apply IsN.mod | with_reducible apply IsN.min | with_reducible apply IsN.max | (with_reducible show (_ : Nat) ≤ _; omega) | exact IsN.toNat (by omega)))) (by omega) (by omega)) (by kernel_rfl) ?_; go_step) | (refine wplV _ (V.shl rfl rfl (by (repeat (first | exact IsN.auto | with_reducible apply IsN.add | with_reducible apply IsN.sub | with_reducible apply IsN.mul | with_reducible apply IsN.div | with_reducible apply IsN.mod | with_reducible apply IsN.min | with_reducible apply IsN.max | (with_reducible show (_ : Nat) ≤ _; omega) | exact IsN.toNat (by omega)))) (by omega) rfl) (by kernel_rfl) ?_; go_step))
            | ((with_reducible show wpList _ _ _ (⟨_, .binOp .add _ _ _ _, _, _, _, _⟩ :: _) _ _); first | (refine wplV _ (V.addI rfl rfl (by omega)) (by kernel_rfl) ?_; go_step) | (refine wplV _ (V.addR (by decide) rfl rfl) (by kernel_rfl) ?_; go_step))
            | ((with_reducible show wpList _ _ _ (⟨_, .load 3 _, _, _, _, _⟩ :: _) _ _); first | (refine wpl (by kernel_rfl) ?_; apply wp_load1A hS 3 _ rfl _ _ rfl (one_of rfl) _ _; (case hp => (repeat (first | with_reducible exact Pull.head | apply Pull.tail))); (case hi => omega); refine put_move ?_; go_step) | (refine wpl (by kernel_rfl) ?_; apply wp_load1OI hS 3 _ rfl _ _ rfl (one_of rfl) _ _ _ _ _; (case hp => (repeat (first | with_reducible exact Pull.head | apply Pull.tail))); (case hi => omega); refine put_move ?_; go_step) | (refine wpl (by kernel_rfl) ?_; apply wp_load1 hS 3 _ rfl _ _ rfl (one_of rfl) _; (case hp => (repeat (first | with_reducible exact Pull.head | apply Pull.tail))); (case hc => rfl); refine put_move ?_; go_step) | (refine wpl (by kernel_rfl) ?_; apply wp_load1O hS 3 _ rfl _ _ rfl (one_of rfl) _ _ _ _ _; (case hp => (repeat (first | with_reducible exact Pull.head | apply Pull.tail))); (case hv => with_reducible assumption); refine put_move ?_; go_step) | (refine wpl (by kernel_rfl) ?_; apply wp_loadW hS 3 _ rfl _ rfl (one_of rfl) _; (case hc => with_reducible assumption); refine put_move ?_; go_step) | (refine wpl (by kernel_rfl) ?_; apply wp_load1R hS 3 _ rfl _ _ _ rfl (one_of rfl) _ _; (case hl => with_reducible assumption); (case hr => with_reducible assumption); (case hf => omega); refine put_move ?_; go_step) | (refine wpl (by kernel_rfl) ?_; apply wp_load1R0 hS 3 _ rfl _ _ rfl (one_of rfl) _ _; (case hl => with_reducible assumption); (case hr => with_reducible assumption); (case hf => omega); refine put_move ?_; go_step) | (refine wpl (by kernel_rfl) ?_; apply wp_load1P hS 3 _ rfl _ _ rfl (one_of rfl) _; (case hp => (repeat (first | with_reducible exact Pull.head | apply Pull.tail))); (case hi => (repeat (first | (apply AtI.head; (case hn => (first | (with_reducible assumption) | exact Len.rep | exact Len.set (by with_reducible assumption) | exact Len.set Len.rep | exact Len.set (Len.set Len.rep))); (case h => omega)) | (apply AtI.skipI; (case hn => (first | (with_reducible assumption) | exact Len.rep | exact Len.set (by with_reducible assumption) | exact Len.set Len.rep | exact Len.set (Len.set Len.rep))); (case h => omega); (case ho => rfl)) | apply AtI.skipV))); refine put_move ?_; go_step) | (refine wpl (by kernel_rfl) ?_; apply wp_loadVP hS 3 _ rfl _ _ rfl (one_of rfl) _; (case hp => (repeat (first | with_reducible exact Pull.head | apply Pull.tail))); (case hi => (repeat (first | exact AtV.head | (apply AtV.skipI; (case hn => (first | (with_reducible assumption) | exact Len.rep | exact Len.set (by with_reducible assumption) | exact Len.set Len.rep | exact Len.set (Len.set Len.rep))); (case h => omega); (case ho => rfl)) | apply AtV.skipV))); refine put_move ?_; go_step))
            | ((fail_if_success (with_reducible show wpList _ _ _ (_ :: _) _ _)); go_step))
          all_goals (try (have hF : False := (by omega); cases hF))
          all_goals
            go_roundg (gk - 1)
            case measure => omega
            case rel => exact ⟨i + 1, R + Q, by omega, by go_num, rfl, (by rw [← HWh.out]; exact HT2), hS.sub (by (repeat (first | exact Sub.nil | with_reducible exact Sub.refl | (refine Sub.cons (by (repeat (first | with_reducible exact Pull.head | apply Pull.tail))) ?_) | apply Sub.skip)))⟩
    · obtain rfl : i = n2 := by omega
      have hR : R < 65536 := by
        have h1 := HTl.out
        rw [List.drop_eq_nil_of_le (by rw [HDl.out]; exact Nat.le_refl _)] at h1
        have h2 := h1.last
        have h3 := HE2.out
        rw [Nat.sub_self, Nat.pow_zero, Nat.mul_one] at h2
        omega
      repeat' (first
        | go_skip
        | go_big_skip
        | ((with_reducible show wpList _ _ _ (⟨_, .move _, _, _, _, _⟩ :: _) _ _); (first | go_big_want | go_step); go_step)
        | ((with_reducible show wpList _ _ _ (⟨_, .assign _, _, _, _, _⟩ :: _) _ _); (first | go_big_want | go_step); go_step)
        | ((with_reducible show wpList _ _ _ (⟨_, .pick _ _ _, _, _, _, _⟩ :: _) _ _); first | (refine wplPickT rfl (by kernel_rfl) ?_; go_step) | (refine wplPickF rfl (by kernel_rfl) ?_; go_step))
        | ((with_reducible show wpList _ _ _ (⟨some 26, .binOp .lss _ _ _ _, _, _, _, _⟩ :: _) _ _); first | (refine wplD _ (V.lss rfl rfl) (by kernel_rfl) (fun hB => ?_) (fun hB => ?_) <;> (try (have hF : False := (by omega); cases hF)) <;> go_step) | (refine wplB _ (V.lss rfl rfl) (by kernel_rfl) (fun hB => ?_) (fun hB => ?_) <;> (try (have hF : False := (absurd hB (by decide)); cases hF)) <;> go_step))
        | ((with_reducible show wpList _ _ _ (⟨some 30, .binOp .gtr _ _ _ _, _, _, _, _⟩ :: _) _ _); first | (refine wplD _ (V.gtr rfl rfl) (by kernel_rfl) (fun hB => ?_) (fun hB => ?_) <;> (try (have hF : False := (by omega); cases hF)) <;> go_step) | (refine wplB _ (V.gtr rfl rfl) (by kernel_rfl) (fun hB => ?_) (fun hB => ?_) <;> (try (have hF : False := (absurd hB (by decide)); cases hF)) <;> go_step))
        | ((with_reducible show wpList _ _ _ (⟨some 40, .binOp .neq 3 _ _ _, _, _, _, _⟩ :: _) _ _); first | (refine wplD _ (V.neq rfl rfl) (by kernel_rfl) (fun hB => ?_) (fun hB => ?_) <;> (try (have hF : False := (by omega); cases hF)) <;> go_step) | (refine wplB _ (V.neq rfl rfl) (by kernel_rfl) (fun hB => ?_) (fun hB => ?_) <;> (try (have hF : False := (absurd hB (by decide)); cases hF)) <;> go_step))
        | ((with_reducible show wpList _ _ _ (⟨some 44, .binOp .gtr _ _ _ _, _, _, _, _⟩ :: _) _ _); first | (refine wplD _ (V.gtr rfl rfl) (by kernel_rfl) (fun hB => ?_) (fun hB => ?_) <;> (try (have hF : False := (by omega); cases hF)) <;> go_step) | (refine wplB _ (V.gtr rfl rfl) (by kernel_rfl) (fun hB => ?_) (fun hB => ?_) <;> (try (have hF : False := (absurd hB (by decide)); cases hF)) <;> go_step))
        | ((with_reducible show wpList _ _ _ (⟨_, .binOp .lss _ _ _ _, _, _, _, _⟩ :: _) _ _); first | (refine wplV _ (V.lss rfl rfl) (by kernel_rfl) ?_; go_step))
        | ((with_reducible show wpList _ _ _ (⟨some 22, .indexAddr 27 _ _, _, _, _, _⟩ :: _) _ _); first | (refine wplV _ (V.indexSl Try.underlying27 isz32 rfl rfl (by (repeat (first | exact IsN.auto | with_reducible apply IsN.add | with_reducible apply IsN.sub | with_reducible apply IsN.mul | with_reducible apply IsN.div | with_reducible apply IsN.mod | with_reducible apply IsN.min | with_reducible apply IsN.max | (with_reducible show (_ : Nat) ≤ _; omega) | exact IsN.toNat (by omega)))) (by omega) rfl (by first | with_reducible exact Nat.zero_add _ | with_reducible exact Nat.add_zero _ | exact rfl)) (by kernel_rfl) ?_; go_step) | (refine wpl_indexS (by with_reducible assumption) Try.underlying27 isz32 rfl rfl (by (repeat (first | exact IsN.auto | with_reducible apply IsN.add | with_reducible apply IsN.sub | with_reducible apply IsN.mul | with_reducible apply IsN.div | with_reducible apply IsN.mod | with_reducible apply IsN.min | with_reducible apply IsN.max | (with_reducible show (_ : Nat) ≤ _; omega) | exact IsN.toNat (by omega)))) (by omega) rfl ?_; intro b22 o22 hl22 hc22; go_step) | (refine wpl_indexW (by with_reducible assumption) Try.underlying27 isz32 rfl rfl (by (repeat (first | exact IsN.auto | with_reducible apply IsN.add | with_reducible apply IsN.sub | with_reducible apply IsN.mul | with_reducible apply IsN.div | with_reducible apply IsN.mod | with_reducible apply IsN.min | with_reducible apply IsN.max | (with_reducible show (_ : Nat) ≤ _; omega) | exact IsN.toNat (by omega)))) (by omega) rfl ?_; intro b22 o22 hc22; go_step) | (refine wpl_indexO hS rfl (by (repeat (first | with_reducible exact Pull.head | apply Pull.tail))) Try.underlying27 isz32 rfl (by (repeat (first | exact IsN.auto | with_reducible apply IsN.add | with_reducible apply IsN.sub | with_reducible apply IsN.mul | with_reducible apply IsN.div | with_reducible apply IsN.mod | with_reducible apply IsN.min | with_reducible apply IsN.max | (with_reducible show (_ : Nat) ≤ _; omega) | exact IsN.toNat (by omega)))) (by omega) rfl rfl ?_; (first | (rintro b22 rfl) | (intro b22 hb22; cases hb22)); go_step))
        | ((with_reducible show wpList _ _ _ (⟨_, .fieldAddr 32 _ 1, _, _, _, _⟩ :: _) _ _); first | (refine wplV _ (V.fieldAddr fo32_1 rfl (by first | with_reducible exact Nat.zero_add _ | with_reducible exact Nat.add_zero _ | exact rfl)) (by kernel_rfl) ?_; go_step))
        | ((with_reducible show wpList _ _ _ (⟨_, .fieldAddr 32 _ 2, _, _, _, _⟩ :: _) _ _); first | (refine wplV _ (V.fieldAddr fo32_2 rfl (by first | with_reducible exact Nat.zero_add _ | with_reducible exact Nat.add_zero _ | exact rfl)) (by kernel_rfl) ?_; go_step))
        | ((with_reducible show wpList _ _ _ (⟨_, .binOp .sub _ _ _ _, _, _, _, _⟩ :: _) _ _); first | (refine wplV _ (V.subI rfl rfl (by omega)) (by kernel_rfl) ?_; go_step) | (refine wplV _ (V.subR (by decide) rfl rfl) (by kernel_rfl) ?_; go_step))
        | ((with_reducible show wpList _ _ _ (⟨_, .binOp .shl _ _ _ _, _, _, _, _⟩ :: _) _ _); first | (refine wplV _ (V.shl1 rfl rfl (by (repeat (first | exact IsN.auto | with_reducible apply IsN.add | with_reducible apply IsN.sub | with_reducible apply IsN.mul | with_reducible apply IsN.div | with_reducible apply IsN.mod | with_reducible apply IsN.min | with_reducible apply IsN.max | (with_reducible show (_ : Nat) ≤ _; omega) | exact IsN.toNat (by omega)))) (by omega)) (by kernel_rfl) ?_; go_step) | (refine wplV _ (V.shlI rfl rfl (by (repeat (first | exact IsN.auto | with_reducible apply IsN.add | with_reducible apply IsN.sub | with_reducible apply IsN.mul | with_reducible apply IsN.div | with_reducible apply IsN.mod | with_reducible apply IsN.min | with_reducible apply IsN.max | (with_reducible show (_ : Nat) ≤ _; omega) | exact IsN.toNat (by omega)))) (by omega) (by omega)) (by kernel_rfl) ?_; go_step) | (refine wplV _ (V.shl rfl rfl (by (repeat (first | exact IsN.auto | with_reducible apply IsN.add | with_reducible apply IsN.sub | with_reducible apply IsN.mul | with_reducible apply IsN.div | with_reducible apply IsN.mod | with_reducible apply IsN.min | with_reducible apply IsN.max | (with_reducible show (_ : Nat) ≤ _; omega) | exact IsN.toNat (by omega)))) (by omega) rfl) (by kernel_rfl) ?_; go_step))
        | ((with_reducible show wpList _ _ _ (⟨some 49, .indexAddr 27 _ _, _, _, _, _⟩ :: _) _ _); first | (refine wplV _ (V.indexSl Try.underlying27 isz32 rfl rfl (by (repeat (first | exact IsN.auto | with_reducible apply IsN.add | with_reducible apply IsN.sub | with_reducible apply IsN.mul | with_reducible apply IsN.div | with_reducible apply IsN.mod | with_reducible apply IsN.min | with_reducible apply IsN.max | (with_reducible show (_ : Nat) ≤ _; omega) | exact IsN.toNat (by omega)))) (by omega) rfl (by first | with_reducible exact Nat.zero_add _ | with_reducible exact Nat.add_zero _ | exact rfl)) (by kernel_rfl) ?_; go_step) | (refine wpl_indexS (by with_reducible assumption) Try.underlying27 isz32 rfl rfl (by (repeat (first | exact IsN.auto | with_reducible apply IsN.add | with_reducible apply IsN.sub | with_reducible apply IsN.mul | with_reducible apply IsN.div | with_reducible apply IsN.mod | with_reducible apply IsN.min | with_reducible apply IsN.max | (with_reducible show (_ : Nat) ≤ _; omega) | exact IsN.toNat (by omega)))) (by omega) rfl ?_; intro b49 o49 hl49 hc49; go_step) | (refine wpl_indexW (by with_reducible assumption) Try.underlying27 isz32 rfl rfl (by (repeat (first | exact IsN.auto | with_reducible apply IsN.add | with_reducible apply IsN.sub | with_reducible apply IsN.mul | with_reducible apply IsN.div | with_reducible apply IsN.mod | with_reducible apply IsN.min | with_reducible apply IsN.max | (with_reducible show (_ : Nat) ≤ _; omega) | exact IsN.toNat (by omega)))) (by omega) rfl ?_; intro b49 o49 hc49; go_step) | (refine wpl_indexO hS rfl (by (repeat (first | with_reducible exact Pull.head | apply Pull.tail))) Try.underlying27 isz32 rfl (by (repeat (first | exact IsN.auto | with_reducible apply IsN.add | with_reducible apply IsN.sub | with_reducible apply IsN.mul | with_reducible apply IsN.div | with_reducible apply IsN.mod | with_reducible apply IsN.min | with_reducible apply IsN.max | (with_reducible show (_ : Nat) ≤ _; omega) | exact IsN.toNat (by omega)))) (by omega) rfl rfl ?_; (first | (rintro b49 rfl) | (intro b49 hb49; cases hb49)); go_step))
        | ((with_reducible show wpList _ _ _ (⟨_, .binOp .gtr _ _ _ _, _, _, _, _⟩ :: _) _ _); first | (refine wplV _ (V.gtr rfl rfl) (by kernel_rfl) ?_; go_step))
        | ((with_reducible show wpList _ _ _ (⟨_, .binOp .add _ _ _ _, _, _, _, _⟩ :: _) _ _); first | (refine wplV _ (V.addI rfl rfl (by omega)) (by kernel_rfl) ?_; go_step) | (refine wplV _ (V.addR (by decide) rfl rfl) (by kernel_rfl) ?_; go_step))
        | ((with_reducible show wpList _ _ _ (⟨_, .load 32 _, _, _, _, _⟩ :: _) _ _); first | (refine wpl (by kernel_rfl) ?_; apply wp_loadROE hS 32 _ rfl _ _ rfl 3 (row_of rfl) _ _ _ _ _; (case hp => (repeat (first | with_reducible exact Pull.head | apply Pull.tail))); (case hi => omega); (case hl' => with_reducible assumption); refine put_move ?_; go_step) | (refine wpl (by kernel_rfl) ?_; apply wp_loadRI hS 32 _ rfl _ _ rfl 3 (row_of rfl) _; (case hl => with_reducible assumption); (case hr => with_reducible assumption); refine put_move ?_; go_step) | (refine wpl (by kernel_rfl) ?_; apply wp_loadRO hS 32 _ rfl _ _ rfl 3 (row_of rfl) _ _ _ _ _; (case hp => (repeat (first | with_reducible exact Pull.head | apply Pull.tail))); (case hi => omega); refine put_move ?_; go_step) | (refine wpl (by kernel_rfl) ?_; apply wp_loadA hS 32 _ rfl _ rfl 3 (row_of rfl) _; (case hp => (repeat (first | with_reducible exact Pull.head | apply Pull.tail))); refine put_move ?_; go_step) | (refine wpl (by kernel_rfl) ?_; apply wp_loadG hS 32 _ rfl _ rfl 3 (row_of rfl) _; (case hp => (repeat (first | with_reducible exact Pull.head | apply Pull.tail))); (case hn => rfl); refine put_move ?_; go_step) | (refine wpl (by kernel_rfl) ?_; apply wp_loadRW hS 32 _ rfl _ _ rfl 3 (row_of rfl) _; (case hc => with_reducible assumption); (case hn => rfl); refine put_move ?_; go_step))
        | ((with_reducible show wpList _ _ _ (⟨some 7, .alloc 32, _, _, _, _⟩ :: _) _ _); first | (refine wpl (by kernel_rfl) ?_; apply wp_alloc (o := ⟨some 7, _, _, _, _, _⟩) hS 32 rfl (.agg #[.int .i64 0, .int .i64 0, .int .i64 0]) [.int .i64 0, .int .i64 0, .int .i64 0] (fun w => Try.zeroValue32 w) rfl; clear hS; intro g7 w hS; refine put_move ?_; go_step))
        | ((with_reducible show wpList _ _ _ (⟨_, .store 32 _ _, _, _, _, _⟩ :: _) _ _); first | (refine wpl (by kernel_rfl) ?_; apply wp_storeA hS 32 _ _ rfl _ rfl 3 (row_of rfl) _ _; (case hp => (repeat (first | with_reducible exact Pull.head | apply Pull.tail))); (case hy => rfl); (case hm => (repeat (first | assumption | exact Len.rep | apply Len.set | exact rfl))); (case hd => exact rfl); clear hS; intro w hS) | (refine wpl (by kernel_rfl) ?_; apply wp_storeG hS 32 _ _ rfl _ rfl 3 (row_of rfl) _ _; (case hp => (repeat (first | with_reducible exact Pull.head | apply Pull.tail))); (case hy => rfl); (case hn => rfl); (case hn' => rfl); (case hv => rfl); (case hd => exact rfl); clear hS; intro w hS))
        | ((with_reducible show wpList _ _ _ (⟨_, .load 3 _, _, _, _, _⟩ :: _) _ _); first | (refine wpl (by kernel_rfl) ?_; apply wp_load1A hS 3 _ rfl _ _ rfl (one_of rfl) _ _; (case hp => (repeat (first | with_reducible exact Pull.head | apply Pull.tail))); (case hi => omega); refine put_move ?_; go_step) | (refine wpl (by kernel_rfl) ?_; apply wp_load1OI hS 3 _ rfl _ _ rfl (one_of rfl) _ _ _ _ _; (case hp => (repeat (first | with_reducible exact Pull.head | apply Pull.tail))); (case hi => omega); refine put_move ?_; go_step) | (refine wpl (by kernel_rfl) ?_; apply wp_load1 hS 3 _ rfl _ _ rfl (one_of rfl) _; (case hp => (repeat (first | with_reducible exact Pull.head | apply Pull.tail))); (case hc => rfl); refine put_move ?_; go_step) | (refine wpl (by kernel_rfl) ?_; apply wp_load1O hS 3 _ rfl _ _ rfl (one_of rfl) _ _ _ _ _; (case hp => (repeat (first | with_reducible exact Pull.head | apply Pull.tail))); (case hv => with_reducible assumption); refine put_move ?_; go_step) | (refine wpl (by kernel_rfl) ?_; apply wp_loadW hS 3 _ rfl _ rfl (one_of rfl) _; (case hc => with_reducible assumption); refine put_move ?_; go_step) | (refine wpl (by kernel_rfl) ?_; apply wp_load1R hS 3 _ rfl _ _ _ rfl (one_of rfl) _ _; (case hl => with_reducible assumption); (case hr => with_reducible assumption); (case hf => omega); refine put_move ?_; go_step) | (refine wpl (by kernel_rfl) ?_; apply wp_load1R0 hS 3 _ rfl _ _ rfl (one_of rfl) _ _; (case hl => with_reducible assumption); (case hr => with_reducible assumption); (case hf => omega); refine put_move ?_; go_step) | (refine wpl (by kernel_rfl) ?_; apply wp_load1P hS 3 _ rfl _ _ rfl (one_of rfl) _; (case hp => (repeat (first | with_reducible exact Pull.head | apply Pull.tail))); (case hi => (repeat (first | (apply AtI.head; (case hn => (first | (with_reducible assumption) | exact Len.rep | exact Len.set (by with_reducible assumption) | exact Len.set Len.rep | exact Len.set (Len.set Len.rep))); (case h => omega)) | (apply AtI.skipI; (case hn => (first | (with_reducible assumption) | exact Len.rep | exact Len.set (by with_reducible assumption) | exact Len.set Len.rep | exact Len.set (Len.set Len.rep))); (case h => omega); (case ho => rfl)) | apply AtI.skipV))); refine put_move ?_; go_step) | (refine wpl (by kernel_rfl) ?_; apply wp_loadVP hS 3 _ rfl _ _ rfl (one_of rfl) _; (case hp => (repeat (first | with_reducible exact Pull.head | apply Pull.tail))); (case hi => (repeat (first | exact AtV.head | (apply AtV.skipI; (case hn => (first | (with_reducible assumption) | exact Len.rep | exact Len.set (by with_reducible assumption) | exact Len.set Len.rep | exact Len.set (Len.set Len.rep))); (case h => omega); (case ho => rfl)) | apply AtV.skipV))); refine put_move ?_; go_step))
        | ((fail_if_success (with_reducible show wpList _ _ _ (_ :: _) _ _)); go_step))
      go_ret
      exact ⟨ret_bool (decide_eq_true (by omega)), hS.1⟩
end Go.Proofs.Ytndclaiobhgmbaa
