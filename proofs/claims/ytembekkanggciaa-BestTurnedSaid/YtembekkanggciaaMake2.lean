/- The walk of best.Make. -/
import Derived.Test.YtembekkanggciaaMake
import Derived.Test.YtembekkanggciaaTable2
import Derived.Test.YtembekkanggciaaPartsRet
namespace Go.Proofs.Ytembekkanggciaa
set_option maxRecDepth 100000
open Go.RowKit
set_option linter.unusedVariables false
abbrev gpks (g n c : Nat) (G : List GP) : Res := pks g n c (G.map gpV)
theorem gp_perm {Q : List PkV} {G : List GP} (h : Q.Perm (G.map gpV)) : ∃ G' : List GP, G'.Perm G ∧ G'.map gpV = Q := perm_lift gpV h G rfl
theorem gp_srt {G : List GP} (h : (G.map gpV).Pairwise (fun a b => a.w ≤ b.w)) : Srt (G.map gpM) := by
  unfold Srt
  rw [List.pairwise_map] at h ⊢
  exact h
theorem star_row {W w : World} {L : List Sr} {rs rs' : List Res} (h : St W w rs) (p : Pull (star (L.map Sr.res)) rs rs') {x : Sr} (hx : x ∈ L) : Sl w 1 (.slice x.ad x.xs.length x.c) x.xs.length (x.xs.map (Value.int .i64)) := by
  obtain ⟨s, hs⟩ := h.starGet p (List.mem_map.2 ⟨x, hx, rfl⟩)
  exact hs.sl (show Pull (own 3 1 x.ad x.xs.length x.c (x.xs.map (Value.int .i64))) (Sr.res x :: s) s from .head)
theorem bl48_0_1 (m0 : Int) (a1 : Option Addr) (n1 c1 : Nat) (w : World) : (Instr.build 48 #[(0, .int .i64 m0), (1, .slice a1 n1 c1)]).run Try.prog w = .ok (.agg #[.int .i64 m0, .slice a1 n1 c1]) w := by kernel_rfl
set_option maxRecDepth 100000 in
set_option maxHeartbeats 16000000 in
theorem make_any (w0 : World) (c : List Int) (ad : Option Addr) (n cap : Nat) (hv : Sl w0 1 (.slice ad n cap) n (c.map (Value.int .i64))) (hn : n ≤ 9223372036854775807) (hok : bE c = 0) :
    Calls Try.prog 13 #[.slice ad n cap] w0 fun e w => ∃ (f : Int → Nat) (R : List Pk) (C S : List Int) (ao : Option Addr) (co : Nat), RowK (sgs c n) 16 R ∧ f = lng (R.take (2 * (sgs c n).length - 2)) ∧ Len C 16 ∧ (∀ i, i < 16 → nth C i = ((symsK f n (i + 1)).length : Nat)) ∧ S = symsTo f n 16 ∧ e = .returned (.tuple #[tv C (.slice ao S.length co), .int .i64 0]) ∧ St w0 w [own 3 1 ao S.length co (S.map (Value.int .i64))] := by
  have hS := St.start w0
  have hcl : c.length = n := by have := hv.1; simpa using this
  have HCK := hid (fun (w : World) (hE : Ext w0 w) => bcheck_any w c ad n cap (hv.ext hE) hn)
  rw [hok] at HCK
  have hn2 : n ≤ 256 ∧ allIn c 0 9999 = true := by
    unfold bE at hok
    rw [hcl] at hok
    by_cases h : 256 < n
    · rw [if_pos h] at hok; cases hok
    · rw [if_neg h] at hok
      by_cases h2 : allIn c 0 9999 = true
      · exact ⟨by omega, h2⟩
      · rw [if_neg h2] at hok; cases hok
  obtain ⟨hn3, hall⟩ := hn2
  have hrng := (allIn_iff c 0 9999).1 hall
  rw [hcl] at hrng
  have HRNG := hid hrng
  have HV := hid hv
  clear hrng hall hok
  go_enter Try.func13, Try.ntmps13
  repeat' (first
    | ((with_reducible show wpList _ _ _ (⟨_, .call ⟨.value (.func 18), _, _⟩, _, _, _, _⟩ :: _) _ _); refine wpl_call (f := 18) Try.call18 (by kernel_rfl) ?_; refine ⟨_, (HCK.out _ hS.1), ?_⟩; rintro e w ⟨rfl, hE2⟩; replace hS := hS.ext hE2; clear hE2; refine ⟨_, rfl, ?_⟩; refine put_move ?_; go_step)
    | ((with_reducible show wpList _ _ _ (⟨_, .move _, _, _, _, _⟩ :: _) _ _); (first | go_big_want | go_step); go_step)
    | ((with_reducible show wpList _ _ _ (⟨_, .assign _, _, _, _, _⟩ :: _) _ _); (first | go_big_want | go_step); go_step)
    | ((with_reducible show wpList _ _ _ (⟨some 22, .binOp .neq 27 _ _ _, _, _, _, _⟩ :: _) _ _); (refine wplV _ (V.neq rfl rfl) (by kernel_rfl) ?_; go_step))
    | ((with_reducible show wpList _ _ _ (⟨some 2, .alloc 25, _, _, _, _⟩ :: _) _ _); (refine wpl (by kernel_rfl) ?_; apply wp_allocP (o := ⟨some 2, _, _, _, _, _⟩) hS 25 rfl _ zp25; clear hS; intro g2 w hS; refine put_move ?_; go_step))
    | ((fail_if_success (with_reducible show wpList _ _ _ (_ :: _) _ _)); go_step))
  repeat' (first
    | ((with_reducible show wpList _ _ _ (⟨some 25, .buildSlice _ _ _, _, _, _, _⟩ :: _) _ _); (refine wpl (by kernel_rfl) ?_; apply wp_buildSliceO (o := ⟨some 25, _, _, _, _, _⟩) hS 23 1 _ rfl 3 1 8 el23 _ _; (case hvs => (repeat (first | exact Parts.nil | (apply Parts.agg; (rfl); (rfl)) | (apply Parts.one; (first | exact IsV.int rfl | exact IsV.bool rfl | exact IsV.slice rfl | exact IsV.pointer rfl | exact IsV.string rfl | exact IsV.map rfl | exact IsV.func rfl); (rfl); (rfl))))); (case hn => rfl); (case hn0 => decide); (case hns => decide); clear hS; intro g25 w hS; refine put_move ?_; go_step))
    | ((with_reducible show wpList _ _ _ (⟨some 27, .buildSlice _ _ _, _, _, _, _⟩ :: _) _ _); (refine wpl (by kernel_rfl) ?_; apply wp_buildSliceO (o := ⟨some 27, _, _, _, _, _⟩) hS 49 1 _ rfl 48 2 32 el49 _ _; (case hvs => (repeat (first | exact Parts.nil | (apply Parts.agg; (rfl); (rfl)) | (apply Parts.one; (first | exact IsV.int rfl | exact IsV.bool rfl | exact IsV.slice rfl | exact IsV.pointer rfl | exact IsV.string rfl | exact IsV.map rfl | exact IsV.func rfl); (rfl); (rfl))))); (case hn => rfl); (case hn0 => decide); (case hns => decide); clear hS; intro g27 w hS; simp only [List.cons_append, List.nil_append] at hS; refine put_move ?_; go_step))
    | ((with_reducible show wpList _ _ _ (⟨_, .move _, _, _, _, _⟩ :: _) _ _); (first | go_big_want | go_step); go_step)
    | ((with_reducible show wpList _ _ _ (⟨_, .assign _, _, _, _, _⟩ :: _) _ _); (first | go_big_want | go_step); go_step)
    | ((with_reducible show wpList _ _ _ (⟨some 26, .build 48 _, _, _, _, _⟩ :: _) _ _); (refine wplV _ (V.build (vs := [(0, _), (1, _)]) rfl (bl48_0_1 _ _ _ _)) (by kernel_rfl) ?_; go_step))
    | ((with_reducible show wpList _ _ _ (⟨some 29, .call ⟨.builtin .len, _, _⟩, _, _, _, _⟩ :: _) _ _); (refine wplV _ (V.len Try.underlying23 rfl) (by kernel_rfl) ?_; go_step))
    | ((fail_if_success (with_reducible show wpList _ _ _ (_ :: _) _ _)); go_step))
  have h2 := ((hS.sub (xs := [own 3 1 (some ⟨g25, 0, none⟩) 1 1 [.int .i64 (-1)], own 48 2 (some ⟨g27, 0, none⟩) 1 1 [.int .i64 0, .slice (some ⟨g25, 0, none⟩) 1 1], prt g2 [.ints (List.replicate 16 0), .val (.slice none 0 0)]]) (by (repeat (first | exact Sub.nil | with_reducible exact Sub.refl | (apply Sub.cons; (case p => (repeat (first | with_reducible exact Pull.head | apply Pull.tail)))) | apply Sub.skip)))).star0).starPut .head
  clear hS
  go_loopg [5, 30] n (fun gk sv iv w => ∃ (k N : Nat) (aa : Option Addr) (ca : Nat) (G : List GP) (L : List Sr), gk + k = n ∧ N = G.length ∧ N ≤ k + 1 ∧ 1 ≤ N ∧ iv = .int .i64 k ∧ sv = .slice aa N ca ∧ G.map gpM = sgs c k ∧ (∀ p ∈ G, p.r ∈ L) ∧
    St w0 w [own 48 2 aa N ca ((G.map gpV).flatMap pkE), star (L.map Sr.res), prt g2 [.ints (List.replicate 16 0), .val (.slice none 0 0)]])
  case atStart => exact ⟨0, 1, _, _, [⟨0, ⟨some ⟨g25, 0, none⟩, 1, [-1]⟩⟩], [⟨some ⟨g25, 0, none⟩, 1, [-1]⟩], by omega, rfl, by omega, by omega, rfl, rfl, rfl, by intro p hp; simp at hp; subst hp; simp, by
    have h3 := h2.sub (xs := [own 48 2 (some ⟨g27, 0, none⟩) 1 1 [.int .i64 0, .slice (some ⟨g25, 0, none⟩) 1 1], star ([] ++ [own 3 1 (some ⟨g25, 0, none⟩) 1 1 [.int .i64 (-1)]]), prt g2 [.ints (List.replicate 16 0), .val (.slice none 0 0)]]) (by (repeat (first | exact Sub.nil | with_reducible exact Sub.refl | (apply Sub.cons; (case p => (repeat (first | with_reducible exact Pull.head | apply Pull.tail)))) | apply Sub.skip)))
    have e1 : ([⟨0, ⟨some ⟨g25, 0, none⟩, 1, [-1]⟩⟩] : List GP).map gpV = [⟨0, some ⟨g25, 0, none⟩, 1, 1⟩] := rfl
    have e2 : ([⟨0, some ⟨g25, 0, none⟩, 1, 1⟩] : List PkV).flatMap pkE = [.int .i64 0, .slice (some ⟨g25, 0, none⟩) 1 1] := rfl
    have e3 : ([⟨some ⟨g25, 0, none⟩, 1, [-1]⟩] : List Sr).map Sr.res = [own 3 1 (some ⟨g25, 0, none⟩) 1 1 [.int .i64 (-1)]] := rfl
    rw [e1, e2, e3]; exact h3⟩
  case round =>
    clear h2
    obtain ⟨k, N, aa, ca, G, L, hk, hN, hN2, hN3, rfl, rfl, hG, hL, hS⟩ := hrel
    have HG := hid hG
    have HL := hid hL
    clear hG hL
    by_cases hlt : k < n
    · have hs := sgs_succ c k
      have hx := HRNG.out k hlt
      obtain ⟨x, hxx⟩ : ∃ x, nth c k = x := ⟨_, rfl⟩
      have HXX := hid hxx
      rw [hxx] at hs hx
      by_cases hx0 : 0 < x
      · rw [if_pos hx0] at hs
        have HSG := hid hs
        clear hs
        repeat' (first
          | ((with_reducible show wpList _ _ _ (⟨_, .move _, _, _, _, _⟩ :: _) _ _); (first | go_big_want | go_step); go_step)
          | ((with_reducible show wpList _ _ _ (⟨_, .assign _, _, _, _, _⟩ :: _) _ _); (first | go_big_want | go_step); go_step)
          | ((with_reducible show wpList _ _ _ (⟨some 31, .binOp .lss _ _ _ _, _, _, _, _⟩ :: _) _ _); (refine wplV _ (V.lss rfl rfl) (by kernel_rfl) ?_; go_step))
          | ((with_reducible show wpList _ _ _ (⟨some 33, .indexAddr 23 _ _, _, _, _, _⟩ :: _) _ _); (refine wpl_indexI (by with_reducible assumption) Try.underlying23 isz3 rfl rfl (by (repeat (first | exact IsN.auto | with_reducible apply IsN.add | with_reducible apply IsN.sub | with_reducible apply IsN.mul | with_reducible apply IsN.div | with_reducible apply IsN.mod | with_reducible apply IsN.min | with_reducible apply IsN.max | (with_reducible show (_ : Nat) ≤ _; omega) | exact IsN.toNat (by omega)))) (by omega) rfl ?_; intro b33 o33 hc33; go_step))
          | ((with_reducible show wpList _ _ _ (⟨_, .load 3 _, _, _, _, _⟩ :: _) _ _); (refine wpl (by kernel_rfl) ?_; apply wp_loadW hS 3 _ rfl _ rfl (one_of rfl) _; (case hc => with_reducible assumption); refine put_move ?_; go_step))
          | ((fail_if_success (with_reducible show wpList _ _ _ (_ :: _) _ _)); go_step))
        rw [HXX.out]
        repeat' (first
          | ((with_reducible show wpList _ _ _ (⟨_, .move _, _, _, _, _⟩ :: _) _ _); (first | go_big_want | go_step); go_step)
          | ((with_reducible show wpList _ _ _ (⟨some 36, .binOp .gtr _ _ _ _, _, _, _, _⟩ :: _) _ _); (refine wplV _ (V.gtr rfl rfl) (by kernel_rfl) ?_; go_step))
          | ((fail_if_success (with_reducible show wpList _ _ _ (_ :: _) _ _)); go_step))
        repeat' (first
          | ((with_reducible show wpList _ _ _ (⟨some 40, .buildSlice _ _ _, _, _, _, _⟩ :: _) _ _); (refine wpl (by kernel_rfl) ?_; apply wp_buildSliceO (o := ⟨some 40, _, _, _, _, _⟩) hS 23 1 _ rfl 3 1 8 el23 _ _; (case hvs => (repeat (first | exact Parts.nil | (apply Parts.agg; (rfl); (rfl)) | (apply Parts.one; (first | exact IsV.int rfl | exact IsV.bool rfl | exact IsV.slice rfl | exact IsV.pointer rfl | exact IsV.string rfl | exact IsV.map rfl | exact IsV.func rfl); (rfl); (rfl))))); (case hn => rfl); (case hn0 => decide); (case hns => decide); clear hS; intro g40 w hS; refine put_move ?_; go_step))
          | ((with_reducible show wpList _ _ _ (⟨_, .assign _, _, _, _, _⟩ :: _) _ _); (first | go_big_want | go_step); go_step)
          | ((with_reducible show wpList _ _ _ (⟨some 41, .build 48 _, _, _, _, _⟩ :: _) _ _); (refine wplV _ (V.build (vs := [(0, _), (1, _)]) rfl (bl48_0_1 _ _ _ _)) (by kernel_rfl) ?_; go_step))
          | ((with_reducible show wpList _ _ _ (⟨some 42, .buildSlice 49 _ _, _, _, _, _⟩ :: _) _ _); (refine wpl (by kernel_rfl) ?_; apply wp_buildSlice1 (o := ⟨some 42, _, _, _, _, _⟩) hS 49 1 _ rfl 48 2 32 el49 _ _; (case hvs => (repeat (first | exact Parts.nil | (apply Parts.agg; (rfl); (rfl)) | (apply Parts.one; (first | exact IsV.int rfl | exact IsV.bool rfl | exact IsV.slice rfl | exact IsV.pointer rfl | exact IsV.string rfl | exact IsV.map rfl | exact IsV.func rfl); (rfl); (rfl))))); (case hn => rfl); (case hn0 => decide); (case hns => decide); clear hS; intro g42 w hS; simp only [List.cons_append, List.nil_append] at hS; refine put_move ?_; go_step))
          | ((with_reducible show wpList _ _ _ (⟨some 43, .call ⟨.builtin .append, _, _⟩, _, _, _, _⟩ :: _) _ _); (refine wpl (by kernel_rfl) ?_; apply wp_append (o := ⟨some 43, _, _, _, _, _⟩) hS _ _ 49 rfl 48 2 32 el49 _ _ _ _ rfl; (case hp => (repeat (first | with_reducible exact Pull.head | apply Pull.tail))); (case hx => exact rfl); (case hm => (first | exact hS.slBlk (by (repeat (first | with_reducible exact Pull.head | apply Pull.tail))) (by rfl) (by decide) | exact hS.sl (by (repeat (first | with_reducible exact Pull.head | apply Pull.tail))) | with_reducible assumption | exact Sl.ext (by with_reducible assumption) hS.1 | exact Sl.nil _ _ | exact Sl.ext (by assumption) hS.1 | assumption)); (case h1 => (first | exact oneAll rfl | exact oneMap _ _ | (intro u hu; cases hu))); (case h63 => unfold maxLen; omega); (case hb => omega); clear hS; intro ad43 c43 w hS; (first | simp only [mapk1] at hS | simp only [mapk2] at hS | simp only [mapk3] at hS | simp only [mapk4] at hS | simp only [mapkl] at hS | skip); refine put_move ?_; go_step))
          | ((fail_if_success (with_reducible show wpList _ _ _ (_ :: _) _ _)); go_step))
        repeat' (first
          | ((with_reducible show wpList _ _ _ (⟨some 44, .binOp .add _ _ _ _, _, _, _, _⟩ :: _) _ _); (refine wplV (.int _ (((k + 1 : Nat) : Int))) (V.as (V.addI rfl rfl (by omega)) (by omega)) rfl ?_; go_step))
          | ((with_reducible show wpList _ _ _ (⟨_, .move _, _, _, _, _⟩ :: _) _ _); (first | go_big_want | go_step); go_step)
          | ((fail_if_success (with_reducible show wpList _ _ _ (_ :: _) _ _)); go_step))
        have h2 := (hS.sub (xs := [star (L.map Sr.res), own 3 1 (some ⟨g40, 0, none⟩) 1 1 [.int .i64 (k : Nat)], own 48 2 ad43 (N + 1) c43 ((G.map gpV).flatMap pkE ++ [.int .i64 x, .slice (some ⟨g40, 0, none⟩) 1 1]), prt g2 [.ints (List.replicate 16 0), .val (.slice none 0 0)]]) (by (repeat (first | exact Sub.nil | with_reducible exact Sub.refl | (apply Sub.cons; (case p => (repeat (first | with_reducible exact Pull.head | apply Pull.tail)))) | apply Sub.skip)))).starPut .head
        go_roundg (gk - 1)
        case measure => omega
        case rel =>
          refine ⟨k + 1, N + 1, ad43, c43, G ++ [⟨x, ⟨some ⟨g40, 0, none⟩, 1, [(k : Int)]⟩⟩], L ++ [⟨some ⟨g40, 0, none⟩, 1, [(k : Int)]⟩], by omega, by simp; omega, by omega, by omega, by go_num, rfl, ?_, ?_, ?_⟩
          · rw [List.map_append, HG.out, HSG.out]; rfl
          · intro p hp
            rcases List.mem_append.1 hp with hp | hp
            · exact List.mem_append_left _ (HL.out p hp)
            · simp at hp; subst hp; simp
          · rw [gp_snoc, List.map_append]
            exact h2.sub (xs := [own 48 2 ad43 (N + 1) c43 ((G.map gpV).flatMap pkE ++ [.int .i64 x, .slice (some ⟨g40, 0, none⟩) 1 1]), star (L.map Sr.res ++ [own 3 1 (some ⟨g40, 0, none⟩) 1 1 [.int .i64 (k : Nat)]]), prt g2 [.ints (List.replicate 16 0), .val (.slice none 0 0)]]) (by (repeat (first | exact Sub.nil | with_reducible exact Sub.refl | (apply Sub.cons; (case p => (repeat (first | with_reducible exact Pull.head | apply Pull.tail)))) | apply Sub.skip)))
      · rw [if_neg hx0] at hs
        have HSG := hid hs
        clear hs
        repeat' (first
          | ((with_reducible show wpList _ _ _ (⟨_, .move _, _, _, _, _⟩ :: _) _ _); (first | go_big_want | go_step); go_step)
          | ((with_reducible show wpList _ _ _ (⟨_, .assign _, _, _, _, _⟩ :: _) _ _); (first | go_big_want | go_step); go_step)
          | ((with_reducible show wpList _ _ _ (⟨some 31, .binOp .lss _ _ _ _, _, _, _, _⟩ :: _) _ _); (refine wplV _ (V.lss rfl rfl) (by kernel_rfl) ?_; go_step))
          | ((with_reducible show wpList _ _ _ (⟨some 33, .indexAddr 23 _ _, _, _, _, _⟩ :: _) _ _); (refine wpl_indexI (by with_reducible assumption) Try.underlying23 isz3 rfl rfl (by (repeat (first | exact IsN.auto | with_reducible apply IsN.add | with_reducible apply IsN.sub | with_reducible apply IsN.mul | with_reducible apply IsN.div | with_reducible apply IsN.mod | with_reducible apply IsN.min | with_reducible apply IsN.max | (with_reducible show (_ : Nat) ≤ _; omega) | exact IsN.toNat (by omega)))) (by omega) rfl ?_; intro b33 o33 hc33; go_step))
          | ((with_reducible show wpList _ _ _ (⟨_, .load 3 _, _, _, _, _⟩ :: _) _ _); (refine wpl (by kernel_rfl) ?_; apply wp_loadW hS 3 _ rfl _ rfl (one_of rfl) _; (case hc => with_reducible assumption); refine put_move ?_; go_step))
          | ((fail_if_success (with_reducible show wpList _ _ _ (_ :: _) _ _)); go_step))
        rw [HXX.out]
        repeat' (first
          | ((with_reducible show wpList _ _ _ (⟨some 36, .binOp .gtr _ _ _ _, _, _, _, _⟩ :: _) _ _); (refine wplV _ (V.gtr rfl rfl) (by kernel_rfl) ?_; go_step))
          | ((fail_if_success (with_reducible show wpList _ _ _ (_ :: _) _ _)); go_step))
        repeat' (first
          | ((with_reducible show wpList _ _ _ (⟨some 44, .binOp .add _ _ _ _, _, _, _, _⟩ :: _) _ _); (refine wplV (.int _ (((k + 1 : Nat) : Int))) (V.as (V.addI rfl rfl (by omega)) (by omega)) rfl ?_; go_step))
          | ((with_reducible show wpList _ _ _ (⟨_, .move _, _, _, _, _⟩ :: _) _ _); (first | go_big_want | go_step); go_step)
          | ((fail_if_success (with_reducible show wpList _ _ _ (_ :: _) _ _)); go_step))
        go_roundg (gk - 1)
        case measure => omega
        case rel => exact ⟨k + 1, N, aa, ca, G, L, by omega, hN, by omega, hN3, by go_num, rfl, by rw [HG.out, HSG.out], HL.out, hS⟩
    · obtain rfl : k = n := by omega
      obtain ⟨g5, rfl⟩ := own_some hS .head (by omega)
      have hNl : (sgs c k).length = N := by rw [← HG.out, List.length_map, hN]
      have HNL := hid hNl
      clear hNl
      replace hS : St w0 wr [gpks g5 N ca G, star (L.map Sr.res), prt g2 [.ints (List.replicate 16 0), .val (.slice none 0 0)]] := hS
      repeat' (first
        | ((with_reducible show wpList _ _ _ (⟨_, .move _, _, _, _, _⟩ :: _) _ _); (first | go_big_want | go_step); go_step)
        | ((with_reducible show wpList _ _ _ (⟨some 31, .binOp .lss _ _ _ _, _, _, _, _⟩ :: _) _ _); (refine wplV _ (V.lss rfl rfl) (by kernel_rfl) ?_; go_step))
        | ((fail_if_success (with_reducible show wpList _ _ _ (_ :: _) _ _)); go_step))
      repeat' (first
        | ((with_reducible show wpList _ _ _ (⟨_, .call ⟨.value (.func 19), _, _⟩, _, _, _, _⟩ :: _) _ _); refine wpl_call (f := 19) Try.call19 (by kernel_rfl) ?_; refine ⟨_, (sortStable_any w0 _ _ _ g5 N ca (G.map gpV) hS .head (by omega)), ?_⟩; rintro e w ⟨rfl, Q0, hQ1, hQ2, hS2⟩; replace hS := hS2; clear hS2; refine ⟨_, rfl, ?_⟩; refine put_move ?_; go_step)
        | ((with_reducible show wpList _ _ _ (⟨_, .move _, _, _, _, _⟩ :: _) _ _); (first | go_big_want | go_step); go_step)
        | ((fail_if_success (with_reducible show wpList _ _ _ (_ :: _) _ _)); go_step))
      obtain ⟨G1, hG1, rfl⟩ := gp_perm hQ1
      have hR1 : RowK (sgs c k) 1 (G1.map gpM) := .one _ (HG.out ▸ hG1.map gpM) (gp_srt hQ2)
      have hL1 : ∀ p ∈ G1, p.r ∈ L := fun p hp => HL.out p (hG1.mem_iff.1 hp)
      have hN1 : N = G1.length := by rw [hG1.length_eq]; exact hN
      have HP1 : Hid ((G1.map gpM).Perm (sgs c k)) := HG.out ▸ hG1.map gpM
      have HR1 := hid hR1
      have HL1 := hid hL1
      clear hQ1 hQ2 hR1 hL1 hG1 HL HG hN
      repeat' (first
        | ((with_reducible show wpList _ _ _ (⟨_, .call ⟨.value (.func 21), _, _⟩, _, _, _, _⟩ :: _) _ _); refine wpl_call (f := 21) Try.call21 (by kernel_rfl) ?_; refine ⟨_, (clone_any w0 _ _ _ g5 N ca (G1.map gpV) hS .head (by omega) (by omega)), ?_⟩; rintro e w ⟨g8, c8, rfl, hS2⟩; replace hS := hS2; clear hS2; refine ⟨_, rfl, ?_⟩; refine put_move ?_; go_step)
        | ((with_reducible show wpList _ _ _ (⟨_, .move _, _, _, _, _⟩ :: _) _ _); (first | go_big_want | go_step); go_step)
        | ((with_reducible show wpList _ _ _ (⟨_, .assign _, _, _, _, _⟩ :: _) _ _); (first | go_big_want | go_step); go_step)
        | ((fail_if_success (with_reducible show wpList _ _ _ (_ :: _) _ _)); go_step))
      repeat' (first
        | ((fail_if_success (with_reducible show wpList _ _ _ (_ :: _) _ _)); go_step))
      go_loopg [8, 49] 15 (fun gk rv iv w => ∃ (j M a8 c8 : Nat) (G2 : List GP) (L : List Sr), gk + j = 15 ∧ M = G2.length ∧ iv = .int .i64 j ∧ rv = .slice (some ⟨a8, 0, none⟩) M c8 ∧ RowK (sgs c k) (j + 1) (G2.map gpM) ∧ (∀ p ∈ G2, p.r ∈ L) ∧ (∀ p ∈ G1, p.r ∈ L) ∧
        St w0 w [gpks a8 M c8 G2, gpks g5 N ca G1, star (L.map Sr.res), prt g2 [.ints (List.replicate 16 0), .val (.slice none 0 0)]])
      case atStart => exact ⟨0, N, g8, c8, G1, L, by omega, hN1, rfl, rfl, HR1.out, HL1.out, HL1.out, hS⟩
      case round =>
        clear hS HL1 HR1
        obtain ⟨j, M, a8, c8, G2, L, hj, hM, rfl, rfl, hR2, hL2, hL1, hS⟩ := hrel
        have hM2 := hR2.len
        rw [HNL.out, List.length_map, ← hM] at hM2
        have HR2 := hid hR2
        have HL1 := hid hL1
        by_cases hlt : j < 15
        · obtain ⟨gk1, hgk1⟩ : ∃ x, x = gk := ⟨_, rfl⟩
          subst hgk1
          have hbd := row_bd HRNG.out hn3 (show j + 1 ≤ 16 by omega) hR2
          have HBD := hid hbd
          have HL2 := hid hL2
          clear hR2 hL1 hL2 hbd
          repeat' (first
            | ((with_reducible show wpList _ _ _ (⟨_, .assign _, _, _, _, _⟩ :: _) _ _); (first | go_big_want | go_step); go_step)
            | ((with_reducible show wpList _ _ _ (⟨some 50, .binOp .lss _ _ _ _, _, _, _, _⟩ :: _) _ _); (refine wplV _ (V.lss rfl rfl) (by kernel_rfl) ?_; go_step))
            | ((fail_if_success (with_reducible show wpList _ _ _ (_ :: _) _ _)); go_step))
          go_loopg [9, 10] M (fun gk sv iv w => ∃ (q : Nat) (aa : Option Addr) (ca' : Nat) (GN : List GP) (L : List Sr), gk + q = M ∧ 2 * q ≤ M ∧ q = GN.length ∧ iv = .int .i64 (2 * q : Nat) ∧ sv = .slice aa q ca' ∧ GN.map gpM = (pkgs (G2.map gpM)).take q ∧ (∀ p ∈ GN, p.r ∈ L) ∧ (∀ p ∈ G2, p.r ∈ L) ∧ (∀ p ∈ G1, p.r ∈ L) ∧
            St w0 w [own 48 2 aa q ca' ((GN.map gpV).flatMap pkE), gpks a8 M c8 G2, gpks g5 N ca G1, star (L.map Sr.res), prt g2 [.ints (List.replicate 16 0), .val (.slice none 0 0)]])
          case atStart => exact ⟨0, none, 0, [], L, by omega, by omega, rfl, rfl, rfl, by simp, (fun p hp => by cases hp), HL2.out, HL1.out, hS.nil 48 2⟩
          case round =>
            clear hS HL1 HL2
            obtain ⟨q, aa, ca', GN, L, hq, hqM, hqn, rfl, rfl, hGN, hLN, hL2, hL1, hS⟩ := hrel
            have HGN := hid hGN
            have HLN := hid hLN
            have HL2 := hid hL2
            have HL1 := hid hL1
            clear hGN hLN hL2 hL1
            by_cases hlt2 : 2 * q + 1 < M
            · obtain ⟨p1, hp1, e1, m1⟩ := gp_at G2 (2 * q) (by omega)
              obtain ⟨p2, hp2, e2, m2⟩ := gp_at G2 (2 * q + 1) (by omega)
              have hpk := pkgs_take (G2.map gpM) q (by rw [List.length_map]; omega)
              rw [m1, m2] at hpk
              have b1 := HBD.out (gpM p1) (List.mem_map.2 ⟨p1, hp1, rfl⟩)
              have b2 := HBD.out (gpM p2) (List.mem_map.2 ⟨p2, hp2, rfl⟩)
              have hw1 : 0 ≤ (elt (G2.map gpV) (2 * q)).w ∧ (elt (G2.map gpV) (2 * q)).w ≤ 50000000 := by rw [e1]; exact ⟨b1.1, b1.2.1⟩
              have hw2 : 0 ≤ (elt (G2.map gpV) (2 * q + 1)).w ∧ (elt (G2.map gpV) (2 * q + 1)).w ≤ 50000000 := by rw [e2]; exact ⟨b2.1, b2.2.1⟩
              have hl12 : (([p1.r, p2.r] : List Sr).flatMap (·.xs)).length ≤ 1000000 := by
                have c1 : p1.r.xs.length ≤ 5000 := b1.2.2
                have c2 : p2.r.xs.length ≤ 5000 := b2.2.2
                simp; omega
              have r1 := HL2.out p1 hp1
              have r2 := HL2.out p2 hp2
              have HPK := hid hpk
              have E1 := hid e1
              have E2 := hid e2
              have H12 := hid hl12
              have R1 := hid r1
              have R2 := hid r2
              have he := pkE_len
              have hCC : Hid (∀ (w : World) (g82 : Nat) (rs rs' : List Res), St w0 w rs → Pull (star (L.map Sr.res)) rs rs' → Sl w 1 (.slice (some ⟨g82, 0, none⟩) 2 2) 2 [.slice (elt (G2.map gpV) (2 * q)).ad (elt (G2.map gpV) (2 * q)).n (elt (G2.map gpV) (2 * q)).c, .slice (elt (G2.map gpV) (2 * q + 1)).ad (elt (G2.map gpV) (2 * q + 1)).n (elt (G2.map gpV) (2 * q + 1)).c] →
                  Calls Try.prog 22 #[.slice (some ⟨g82, 0, none⟩) 2 2] w fun e w' => ∃ (ad : Option Addr) (c : Nat), e = .returned (.slice ad (p1.r.xs ++ p2.r.xs).length c) ∧ St w w' [own 3 1 ad (p1.r.xs ++ p2.r.xs).length c ((p1.r.xs ++ p2.r.xs).map (Value.int .i64))]) := fun w g82 rs rs' h p hsl => by
                rw [e1, e2] at hsl
                have hc := concat_any w g82 2 2 [p1.r, p2.r] hsl (fun r hr => by
                  simp only [List.mem_cons, List.mem_nil_iff, or_false] at hr
                  rcases hr with rfl | rfl
                  · exact star_row h p r1
                  · exact star_row h p r2) (by omega) hl12
                simpa using hc
              clear hp1 hp2 e1 e2 m1 m2 hpk b1 b2 hl12 r1 r2
              repeat' (first
                | ((with_reducible show wpList _ _ _ (⟨some 52, .binOp .add _ _ _ _, _, _, _, _⟩ :: _) _ _); (refine wplV (.int _ (((2 * q + 1 : Nat) : Int))) (V.as (V.addI rfl rfl (by omega)) (by omega)) rfl ?_; go_step))
                | ((with_reducible show wpList _ _ _ (⟨_, .move _, _, _, _, _⟩ :: _) _ _); (first | go_big_want | go_step); go_step)
                | ((with_reducible show wpList _ _ _ (⟨some 54, .call ⟨.builtin .len, _, _⟩, _, _, _, _⟩ :: _) _ _); (refine wplV _ (V.len Try.underlying49 rfl) (by kernel_rfl) ?_; go_step))
                | ((with_reducible show wpList _ _ _ (⟨some 55, .binOp .lss _ _ _ _, _, _, _, _⟩ :: _) _ _); (refine wplV _ (V.lss rfl rfl) (by kernel_rfl) ?_; go_step))
                | ((fail_if_success (with_reducible show wpList _ _ _ (_ :: _) _ _)); go_step))
              refine drawn_lit [27, 28] (fun w => St w0 w [gpks a8 M c8 G2]) (by kernel_rfl) ?_
              replace hS := hS.drew
              focus
                refine takeM 0 _ (by (repeat (first | with_reducible exact AtL.head | apply AtL.tail))) (by kernel_rfl) (by kernel_rfl) (by kernel_rfl) (by exact fun _ _ _ _ h => h) rfl ?_
                go_step
                refine takeM 1 _ (by (repeat (first | with_reducible exact AtL.head | apply AtL.tail))) (by kernel_rfl) (by kernel_rfl) (by kernel_rfl) (by exact fun _ _ _ _ h => h) rfl ?_
                go_step
                refine takeM 2 _ (by (repeat (first | with_reducible exact AtL.head | apply AtL.tail))) (by kernel_rfl) (by kernel_rfl) (by kernel_rfl) (by exact fun _ _ _ _ h => h) rfl ?_
                go_step
                (refine takeV 3 _ (by (repeat (first | with_reducible exact AtL.head | apply AtL.tail))) (by kernel_rfl) (by kernel_rfl) (by kernel_rfl) (by exact fun _ _ _ _ h => h) (V.indexSl Try.underlying49 isz48 rfl rfl (by (repeat (first | exact IsN.auto | with_reducible apply IsN.add | with_reducible apply IsN.sub | with_reducible apply IsN.mul | with_reducible apply IsN.div | with_reducible apply IsN.mod | with_reducible apply IsN.min | with_reducible apply IsN.max | (with_reducible show (_ : Nat) ≤ _; omega) | exact IsN.toNat (by omega)))) (by omega) rfl (by first | with_reducible exact Nat.zero_add _ | with_reducible exact Nat.add_zero _ | exact rfl)) rfl ?_)
                go_step
                (refine takeV 4 _ (by (repeat (first | with_reducible exact AtL.head | apply AtL.tail))) (by kernel_rfl) (by kernel_rfl) (by kernel_rfl) (by exact fun _ _ _ _ h => h) (V.fieldAddr fo48_0 rfl (by first | with_reducible exact Nat.zero_add _ | with_reducible exact Nat.add_zero _ | exact rfl)) rfl ?_)
                go_step
                apply takeS 5 (by (repeat (first | with_reducible exact AtL.head | apply AtL.tail))) (by kernel_rfl) (by kernel_rfl) (by kernel_rfl) (by exact fun _ _ _ _ h => h) [12, 26, 27, 28, 29] (by kernel_rfl) (hS.sub (by (repeat (first | exact Sub.nil | with_reducible exact Sub.refl | (apply Sub.cons; (case p => (repeat (first | with_reducible exact Pull.head | apply Pull.tail)))) | apply Sub.skip))))
                case hfr => intro w hS; ((refine wpl (by kernel_rfl) ?_; apply wp_load1E0 hS 3 _ rfl _ _ rfl (one_of rfl) _ _ _ _ _ _; (case hp => (repeat (first | with_reducible exact Pull.head | apply Pull.tail))); (case inst => infer_instance); (case he => with_reducible assumption); (case hq => exact rfl); (case hj => omega); (case hv => exact rfl); refine put_move ?_; go_step)); refine wpList_nil ?_; exact ⟨rfl, rfl⟩
                case hd => rfl
                refine takeM 6 _ (by (repeat (first | with_reducible exact AtL.head | apply AtL.tail))) (by kernel_rfl) (by kernel_rfl) (by kernel_rfl) (by exact fun _ _ _ _ h => h) rfl ?_
                go_step
                refine takeM 7 _ (by (repeat (first | with_reducible exact AtL.head | apply AtL.tail))) (by kernel_rfl) (by kernel_rfl) (by kernel_rfl) (by exact fun _ _ _ _ h => h) rfl ?_
                go_step
                (refine takeV 8 (.int _ (((2 * q + 1 : Nat) : Int))) (by (repeat (first | with_reducible exact AtL.head | apply AtL.tail))) (by kernel_rfl) (by kernel_rfl) (by kernel_rfl) (by exact fun _ _ _ _ h => h) (V.as (V.addI rfl rfl (by omega)) (by omega)) rfl ?_)
                go_step
                (refine takeV 9 _ (by (repeat (first | with_reducible exact AtL.head | apply AtL.tail))) (by kernel_rfl) (by kernel_rfl) (by kernel_rfl) (by exact fun _ _ _ _ h => h) (V.indexSl Try.underlying49 isz48 rfl rfl (by (repeat (first | exact IsN.auto | with_reducible apply IsN.add | with_reducible apply IsN.sub | with_reducible apply IsN.mul | with_reducible apply IsN.div | with_reducible apply IsN.mod | with_reducible apply IsN.min | with_reducible apply IsN.max | (with_reducible show (_ : Nat) ≤ _; omega) | exact IsN.toNat (by omega)))) (by omega) rfl (by first | with_reducible exact Nat.zero_add _ | with_reducible exact Nat.add_zero _ | exact rfl)) rfl ?_)
                go_step
                (refine takeV 10 _ (by (repeat (first | with_reducible exact AtL.head | apply AtL.tail))) (by kernel_rfl) (by kernel_rfl) (by kernel_rfl) (by exact fun _ _ _ _ h => h) (V.fieldAddr fo48_0 rfl (by first | with_reducible exact Nat.zero_add _ | with_reducible exact Nat.add_zero _ | exact rfl)) rfl ?_)
                go_step
                apply takeS 11 (by (repeat (first | with_reducible exact AtL.head | apply AtL.tail))) (by kernel_rfl) (by kernel_rfl) (by kernel_rfl) (by exact fun _ _ _ _ h => h) [12, 26, 27, 28, 29] (by kernel_rfl) (hS.sub (by (repeat (first | exact Sub.nil | with_reducible exact Sub.refl | (apply Sub.cons; (case p => (repeat (first | with_reducible exact Pull.head | apply Pull.tail)))) | apply Sub.skip))))
                case hfr => intro w hS; ((refine wpl (by kernel_rfl) ?_; apply wp_load1E0 hS 3 _ rfl _ _ rfl (one_of rfl) _ _ _ _ _ _; (case hp => (repeat (first | with_reducible exact Pull.head | apply Pull.tail))); (case inst => infer_instance); (case he => with_reducible assumption); (case hq => exact rfl); (case hj => omega); (case hv => exact rfl); refine put_move ?_; go_step)); refine wpList_nil ?_; exact ⟨rfl, rfl⟩
                case hd => rfl
                (refine takeV 12 _ (by (repeat (first | with_reducible exact AtL.head | apply AtL.tail))) (by kernel_rfl) (by kernel_rfl) (by kernel_rfl) (by exact fun _ _ _ _ h => h) (V.addI rfl rfl (by omega)) rfl ?_)
                go_step
                refine takeM 13 _ (by (repeat (first | with_reducible exact AtL.head | apply AtL.tail))) (by kernel_rfl) (by kernel_rfl) (by kernel_rfl) (by exact fun _ _ _ _ h => h) rfl ?_
                go_step
                refine takeM 14 _ (by (repeat (first | with_reducible exact AtL.head | apply AtL.tail))) (by kernel_rfl) (by kernel_rfl) (by kernel_rfl) (by exact fun _ _ _ _ h => h) rfl ?_
                go_step
                (refine takeV 15 _ (by (repeat (first | with_reducible exact AtL.head | apply AtL.tail))) (by kernel_rfl) (by kernel_rfl) (by kernel_rfl) (by exact fun _ _ _ _ h => h) (V.indexSl Try.underlying49 isz48 rfl rfl (by (repeat (first | exact IsN.auto | with_reducible apply IsN.add | with_reducible apply IsN.sub | with_reducible apply IsN.mul | with_reducible apply IsN.div | with_reducible apply IsN.mod | with_reducible apply IsN.min | with_reducible apply IsN.max | (with_reducible show (_ : Nat) ≤ _; omega) | exact IsN.toNat (by omega)))) (by omega) rfl (by first | with_reducible exact Nat.zero_add _ | with_reducible exact Nat.add_zero _ | exact rfl)) rfl ?_)
                go_step
                (refine takeV 16 _ (by (repeat (first | with_reducible exact AtL.head | apply AtL.tail))) (by kernel_rfl) (by kernel_rfl) (by kernel_rfl) (by exact fun _ _ _ _ h => h) (V.fieldAddr fo48_1 rfl (by first | with_reducible exact Nat.zero_add _ | with_reducible exact Nat.add_zero _ | exact rfl)) rfl ?_)
                go_step
                apply takeS 17 (by (repeat (first | with_reducible exact AtL.head | apply AtL.tail))) (by kernel_rfl) (by kernel_rfl) (by kernel_rfl) (by exact fun _ _ _ _ h => h) [24, 25, 26, 27, 28, 29] (by kernel_rfl) (hS.sub (by (repeat (first | exact Sub.nil | with_reducible exact Sub.refl | (apply Sub.cons; (case p => (repeat (first | with_reducible exact Pull.head | apply Pull.tail)))) | apply Sub.skip))))
                case hfr => intro w hS; ((refine wpl (by kernel_rfl) ?_; apply wp_load1E hS 23 _ rfl _ _ rfl (one_of rfl) _ _ _ _ _ _; (case hp => (repeat (first | with_reducible exact Pull.head | apply Pull.tail))); (case inst => infer_instance); (case he => with_reducible assumption); (case hq => exact rfl); (case hj => omega); (case hv => exact rfl); refine put_move ?_; go_step)); refine wpList_nil ?_; exact ⟨rfl, rfl⟩
                case hd => rfl
                refine takeM 18 _ (by (repeat (first | with_reducible exact AtL.head | apply AtL.tail))) (by kernel_rfl) (by kernel_rfl) (by kernel_rfl) (by exact fun _ _ _ _ h => h) rfl ?_
                go_step
                refine takeM 19 _ (by (repeat (first | with_reducible exact AtL.head | apply AtL.tail))) (by kernel_rfl) (by kernel_rfl) (by kernel_rfl) (by exact fun _ _ _ _ h => h) rfl ?_
                go_step
                (refine takeV 20 _ (by (repeat (first | with_reducible exact AtL.head | apply AtL.tail))) (by kernel_rfl) (by kernel_rfl) (by kernel_rfl) (by exact fun _ _ _ _ h => h) (V.addI rfl rfl (by omega)) rfl ?_)
                go_step
                (refine takeV 21 _ (by (repeat (first | with_reducible exact AtL.head | apply AtL.tail))) (by kernel_rfl) (by kernel_rfl) (by kernel_rfl) (by exact fun _ _ _ _ h => h) (V.indexSl Try.underlying49 isz48 rfl rfl (by (repeat (first | exact IsN.auto | with_reducible apply IsN.add | with_reducible apply IsN.sub | with_reducible apply IsN.mul | with_reducible apply IsN.div | with_reducible apply IsN.mod | with_reducible apply IsN.min | with_reducible apply IsN.max | (with_reducible show (_ : Nat) ≤ _; omega) | exact IsN.toNat (by omega)))) (by omega) rfl (by first | with_reducible exact Nat.zero_add _ | with_reducible exact Nat.add_zero _ | exact rfl)) rfl ?_)
                go_step
                (refine takeV 22 _ (by (repeat (first | with_reducible exact AtL.head | apply AtL.tail))) (by kernel_rfl) (by kernel_rfl) (by kernel_rfl) (by exact fun _ _ _ _ h => h) (V.fieldAddr fo48_1 rfl (by first | with_reducible exact Nat.zero_add _ | with_reducible exact Nat.add_zero _ | exact rfl)) rfl ?_)
                go_step
                apply takeS 23 (by (repeat (first | with_reducible exact AtL.head | apply AtL.tail))) (by kernel_rfl) (by kernel_rfl) (by kernel_rfl) (by exact fun _ _ _ _ h => h) [24, 25, 26, 27, 28, 29] (by kernel_rfl) (hS.sub (by (repeat (first | exact Sub.nil | with_reducible exact Sub.refl | (apply Sub.cons; (case p => (repeat (first | with_reducible exact Pull.head | apply Pull.tail)))) | apply Sub.skip))))
                case hfr => intro w hS; ((refine wpl (by kernel_rfl) ?_; apply wp_load1E hS 23 _ rfl _ _ rfl (one_of rfl) _ _ _ _ _ _; (case hp => (repeat (first | with_reducible exact Pull.head | apply Pull.tail))); (case inst => infer_instance); (case he => with_reducible assumption); (case hq => exact rfl); (case hj => omega); (case hv => exact rfl); refine put_move ?_; go_step)); refine wpList_nil ?_; exact ⟨rfl, rfl⟩
                case hd => rfl
                refine branch1 24 (by (repeat (first | with_reducible exact AtL.head | apply AtL.tail))) rfl (by kernel_rfl) ?_
                (refine wp_buildSlice1 (o := ⟨some 82, _, _, _, _, _⟩) hS 60 2 _ rfl 23 1 24 el60 _ _ (by (repeat (first | exact Parts.nil | (apply Parts.agg; (rfl); (rfl)) | (apply Parts.one; (first | exact IsV.int rfl | exact IsV.bool rfl | exact IsV.slice rfl | exact IsV.pointer rfl | exact IsV.string rfl | exact IsV.map rfl | exact IsV.func rfl); (rfl); (rfl))))) (by rfl) (by decide) (by decide) ?_; clear hS; intro g82 w hS)
                refine ⟨fun _ _ => hS.sub (by (repeat (first | exact Sub.nil | with_reducible exact Sub.refl | (apply Sub.cons; (case p => (repeat (first | with_reducible exact Pull.head | apply Pull.tail)))) | apply Sub.skip))), ?_⟩
                refine drawn_move ?_
                go_step
                refine branch1 25 (by (repeat (first | with_reducible exact AtL.head | apply AtL.tail))) rfl (by kernel_rfl) ?_
                refine wp_callF (f := 22) rfl Try.call22 (hCC.out _ _ _ _ hS (by (repeat (first | with_reducible exact Pull.head | apply Pull.tail))) (hS.slBlk (n := 2) (by (repeat (first | with_reducible exact Pull.head | apply Pull.tail))) (by rfl) (by decide))) ?_; rintro e w ⟨ad83, c83, rfl, hS2⟩; replace hS := hS.call1 hS2; clear hS2; refine ⟨_, rfl, ?_⟩
                refine ⟨fun _ _ => hS.sub (by (repeat (first | exact Sub.nil | with_reducible exact Sub.refl | (apply Sub.cons; (case p => (repeat (first | with_reducible exact Pull.head | apply Pull.tail)))) | apply Sub.skip))), ?_⟩
                refine drawn_move ?_
                go_step
                (refine takeV 26 _ (by (repeat (first | with_reducible exact AtL.head | apply AtL.tail))) (by kernel_rfl) (by kernel_rfl) (by kernel_rfl) (by exact fun _ _ _ _ h => h) (V.build (vs := [(0, _), (1, _)]) rfl (bl48_0_1 _ _ _ _)) rfl ?_)
                go_step
                refine branch1 27 (by (repeat (first | with_reducible exact AtL.head | apply AtL.tail))) rfl (by kernel_rfl) ?_
                (refine wp_buildSlice1 (o := ⟨some 85, _, _, _, _, _⟩) hS 49 1 _ rfl 48 2 32 el49 _ _ (by (repeat (first | exact Parts.nil | (apply Parts.agg; (rfl); (rfl)) | (apply Parts.one; (first | exact IsV.int rfl | exact IsV.bool rfl | exact IsV.slice rfl | exact IsV.pointer rfl | exact IsV.string rfl | exact IsV.map rfl | exact IsV.func rfl); (rfl); (rfl))))) (by rfl) (by decide) (by decide) ?_; clear hS; intro g85 w hS; simp only [List.cons_append, List.nil_append] at hS)
                refine ⟨fun h => absurd (by decide) h, ?_⟩
                refine drawn_move ?_
                go_step
                refine branch1 28 (by (repeat (first | with_reducible exact AtL.head | apply AtL.tail))) rfl (by kernel_rfl) ?_
                (refine wp_append (o := ⟨some 86, _, _, _, _, _⟩) hS _ _ 49 rfl 48 2 32 el49 _ _ _ _ rfl (by (repeat (first | with_reducible exact Pull.head | apply Pull.tail))) _ rfl _ _ (by (first | exact hS.slBlk (by (repeat (first | with_reducible exact Pull.head | apply Pull.tail))) (by rfl) (by decide) | exact hS.sl (by (repeat (first | with_reducible exact Pull.head | apply Pull.tail))) | with_reducible assumption | exact Sl.ext (by with_reducible assumption) hS.1 | exact Sl.nil _ _ | exact Sl.ext (by assumption) hS.1 | assumption)) (by (first | exact oneAll rfl | exact oneMap _ _ | (intro u hu; cases hu))) (by unfold maxLen; omega) (by omega) ?_; clear hS; intro ad86 c86 w hS; (first | simp only [mapk1] at hS | simp only [mapk2] at hS | simp only [mapk3] at hS | simp only [mapk4] at hS | simp only [mapkl] at hS | skip))
                refine ⟨fun h => absurd (by decide) h, ?_⟩
                refine drawn_move ?_
                go_step
                refine takeA 29 _ (by (repeat (first | with_reducible exact AtL.head | apply AtL.tail))) (by kernel_rfl) (by kernel_rfl) (by kernel_rfl) (by exact fun _ _ _ _ h => h) rfl ?_
                go_step
                refine drawn_done (by kernel_rfl) ?_ _
              repeat' (first
                | ((with_reducible show wpList _ _ _ (⟨some 57, .binOp .add _ _ _ _, _, _, _, _⟩ :: _) _ _); (refine wplV (.int _ (((2 * (q + 1) : Nat) : Int))) (V.as (V.addI rfl rfl (by omega)) (by omega)) rfl ?_; go_step))
                | ((with_reducible show wpList _ _ _ (⟨_, .move _, _, _, _, _⟩ :: _) _ _); (first | go_big_want | go_step); go_step)
                | ((with_reducible show wpList _ _ _ (⟨_, .assign _, _, _, _, _⟩ :: _) _ _); (first | go_big_want | go_step); go_step)
                | ((fail_if_success (with_reducible show wpList _ _ _ (_ :: _) _ _)); go_step))
              obtain ⟨w12, hw12⟩ : ∃ w12, (elt (G2.map gpV) (2 * q)).w + (elt (G2.map gpV) (2 * q + 1)).w = w12 := ⟨_, rfl⟩
              rw [hw12] at hS
              have h2 := (hS.sub (xs := [star (L.map Sr.res), own 3 1 ad83 (p1.r.xs ++ p2.r.xs).length c83 ((p1.r.xs ++ p2.r.xs).map (Value.int .i64)), own 48 2 ad86 (q + 1) c86 ((GN.map gpV).flatMap pkE ++ [.int .i64 w12, .slice ad83 (p1.r.xs ++ p2.r.xs).length c83]), gpks a8 M c8 G2, gpks g5 N ca G1, prt g2 [.ints (List.replicate 16 0), .val (.slice none 0 0)]]) (by (repeat (first | exact Sub.nil | with_reducible exact Sub.refl | (apply Sub.cons; (case p => (repeat (first | with_reducible exact Pull.head | apply Pull.tail)))) | apply Sub.skip)))).starPut .head
              go_roundg (gk - 1)
              case measure => omega
              case rel =>
                refine ⟨q + 1, ad86, c86, GN ++ [⟨w12, ⟨ad83, c83, p1.r.xs ++ p2.r.xs⟩⟩], L ++ [⟨ad83, c83, p1.r.xs ++ p2.r.xs⟩], by omega, by omega, by simp; omega, by go_num, rfl, ?_, ?_, fun p hp => List.mem_append_left _ (HL2.out p hp), fun p hp => List.mem_append_left _ (HL1.out p hp), ?_⟩
                · rw [List.map_append, HGN.out, HPK.out, ← hw12, E1.out, E2.out]; rfl
                · intro p hp
                  rcases List.mem_append.1 hp with hp | hp
                  · exact List.mem_append_left _ (HLN.out p hp)
                  · simp at hp; subst hp; simp
                · rw [gp_snoc, List.map_append]
                  exact h2.sub (xs := [own 48 2 ad86 (q + 1) c86 ((GN.map gpV).flatMap pkE ++ [.int .i64 w12, .slice ad83 (p1.r.xs ++ p2.r.xs).length c83]), gpks a8 M c8 G2, gpks g5 N ca G1, star (L.map Sr.res ++ [own 3 1 ad83 (p1.r.xs ++ p2.r.xs).length c83 ((p1.r.xs ++ p2.r.xs).map (Value.int .i64))]), prt g2 [.ints (List.replicate 16 0), .val (.slice none 0 0)]]) (by (repeat (first | exact Sub.nil | with_reducible exact Sub.refl | (apply Sub.cons; (case p => (repeat (first | with_reducible exact Pull.head | apply Pull.tail)))) | apply Sub.skip)))
            · have hGN2 : GN.map gpM = pkgs (G2.map gpM) := by rw [HGN.out, List.take_of_length_le (by rw [pairs_len, List.length_map]; omega)]
              have HGN2 := hid hGN2
              clear hGN2 HGN
              have he := pkE_all (G1.map gpV)
              repeat' (first
                | ((with_reducible show wpList _ _ _ (⟨some 52, .binOp .add _ _ _ _, _, _, _, _⟩ :: _) _ _); (refine wplV (.int _ (((2 * q + 1 : Nat) : Int))) (V.as (V.addI rfl rfl (by omega)) (by omega)) rfl ?_; go_step))
                | ((with_reducible show wpList _ _ _ (⟨_, .move _, _, _, _, _⟩ :: _) _ _); (first | go_big_want | go_step); go_step)
                | ((with_reducible show wpList _ _ _ (⟨some 54, .call ⟨.builtin .len, _, _⟩, _, _, _, _⟩ :: _) _ _); (refine wplV _ (V.len Try.underlying49 rfl) (by kernel_rfl) ?_; go_step))
                | ((with_reducible show wpList _ _ _ (⟨some 55, .binOp .lss _ _ _ _, _, _, _, _⟩ :: _) _ _); (refine wplV _ (V.lss rfl rfl) (by kernel_rfl) ?_; go_step))
                | ((fail_if_success (with_reducible show wpList _ _ _ (_ :: _) _ _)); go_step))
              repeat' (first
                | ((with_reducible show wpList _ _ _ (⟨some 89, _, _, _, _, _⟩ :: _) _ _); refine wpl (by kernel_rfl) ?_; refine wp_append (o := ⟨some 89, _, _, _, _, _⟩) hS _ _ 49 rfl 48 2 32 el49 _ _ _ _ rfl (by (repeat (first | with_reducible exact Pull.head | apply Pull.tail))) _ rfl N _ (hS.sl (show Pull (gpks g5 N ca G1) _ _ from (by (repeat (first | with_reducible exact Pull.head | apply Pull.tail))))) he (by unfold maxLen; omega) (by omega) ?_; clear hS; intro ad89 c89 w hS; refine put_move ?_; go_step)
                | ((with_reducible show wpList _ _ _ (⟨_, .move _, _, _, _, _⟩ :: _) _ _); (first | go_big_want | go_step); go_step)
                | ((with_reducible show wpList _ _ _ (⟨_, .assign _, _, _, _, _⟩ :: _) _ _); (first | go_big_want | go_step); go_step)
                | ((fail_if_success (with_reducible show wpList _ _ _ (_ :: _) _ _)); go_step))
              rw [← gp_app] at hS
              obtain ⟨g89, rfl⟩ := own_some hS .head (by omega)
              repeat' (first
                | ((with_reducible show wpList _ _ _ (⟨_, .call ⟨.value (.func 19), _, _⟩, _, _, _, _⟩ :: _) _ _); refine wpl_call (f := 19) Try.call19 (by kernel_rfl) ?_; refine ⟨_, (sortStable_any w0 _ _ _ g89 (q + N) c89 ((GN ++ G1).map gpV) hS .head (by omega)), ?_⟩; rintro e w ⟨rfl, Q0, hQ1, hQ2, hS2⟩; replace hS := hS2; clear hS2; refine ⟨_, rfl, ?_⟩; refine put_move ?_; go_step)
                | ((fail_if_success (with_reducible show wpList _ _ _ (_ :: _) _ _)); go_step))
              obtain ⟨G3, hG3, rfl⟩ := gp_perm hQ1
              have hR3 : RowK (sgs c k) (j + 2) (G3.map gpM) := by
                refine RowK.more HR2.out ?_ (gp_srt hQ2)
                have := hG3.map gpM
                rw [List.map_append, HGN2.out] at this
                exact this.trans (List.Perm.append_left _ HP1.out)
              have hL3 : ∀ p ∈ G3, p.r ∈ L := fun p hp => (List.mem_append.1 (hG3.mem_iff.1 hp)).elim (HLN.out p) (HL1.out p)
              have hN3' : q + N = G3.length := by rw [hG3.length_eq, List.length_append, ← hqn, ← hN1]
              have HR3 := hid hR3
              have HL3 := hid hL3
              clear hQ1 hQ2 hR3 hL3 hG3
              repeat' (first
                | ((with_reducible show wpList _ _ _ (⟨some 92, .binOp .add _ _ _ _, _, _, _, _⟩ :: _) _ _); (refine wplV (.int _ (((j + 1 : Nat) : Int))) (V.as (V.addI rfl rfl (by omega)) (by omega)) rfl ?_; go_step))
                | ((with_reducible show wpList _ _ _ (⟨_, .move _, _, _, _, _⟩ :: _) _ _); (first | go_big_want | go_step); go_step)
                | ((fail_if_success (with_reducible show wpList _ _ _ (_ :: _) _ _)); go_step))
              go_roundg (gk1 - 1)
              case measure => omega
              case rel => exact ⟨j + 1, q + N, g89, c89, G3, L, by omega, hN3', by go_num, rfl, HR3.out, HL3.out, HL1.out, hS.sub (by (repeat (first | exact Sub.nil | with_reducible exact Sub.refl | (apply Sub.cons; (case p => (repeat (first | with_reducible exact Pull.head | apply Pull.tail)))) | apply Sub.skip)))⟩
        · obtain rfl : j = 15 := by omega
          have HL2 := hid hL2
          clear hR2 hL2 hL1 HL1
          obtain ⟨Tn, hTn⟩ : ∃ Tn, 2 * N - 2 = Tn := ⟨_, rfl⟩
          have hMc : M ≤ c8 := by
            have := hS.sl (show Pull (gpks a8 M c8 G2) _ _ from .head)
            obtain ⟨_, _, _, e, h1, _⟩ := this
            cases e; exact h1
          have hlong := HR2.out.long (by rw [HNL.out]; omega)
          rw [HNL.out, List.length_map, ← hM] at hlong
          have hd0 : N / 2 ^ (15 + 1 - 1) = 0 := Nat.div_eq_of_lt (by omega)
          rw [hd0] at hlong
          have hTM : Tn ≤ M := by omega
          clear hd0 hlong
          obtain ⟨f, hf⟩ : ∃ f : Int → Nat, f = lng ((G2.map gpM).take Tn) := ⟨_, rfl⟩
          replace hS := hS.sub (xs := [gpks a8 M c8 G2, gpks g5 N ca G1, star (L.map Sr.res), prt g2 [.ints (List.replicate 16 0), .val (.slice none 0 0)]]) (by (repeat (first | exact Sub.nil | with_reducible exact Sub.refl | (apply Sub.cons; (case p => (repeat (first | with_reducible exact Pull.head | apply Pull.tail)))) | apply Sub.skip)))
          repeat' (first
            | ((with_reducible show wpList _ _ _ (⟨some 50, .binOp .lss _ _ _ _, _, _, _, _⟩ :: _) _ _); (refine wplV _ (V.lss rfl rfl) (by kernel_rfl) ?_; go_step))
            | ((fail_if_success (with_reducible show wpList _ _ _ (_ :: _) _ _)); go_step))
          repeat' (first
            | ((with_reducible show wpList _ _ _ (⟨some 97, .binOp .mul _ _ _ _, _, _, _, _⟩ :: _) _ _); (refine wplV (.int _ (((2 * N : Nat) : Int))) (V.as (V.mulI rfl rfl (by omega)) (by omega)) rfl ?_; go_step))
            | ((with_reducible show wpList _ _ _ (⟨some 98, .binOp .sub _ _ _ _, _, _, _, _⟩ :: _) _ _); (refine wplV (.int _ (((Tn : Nat) : Int))) (V.as (V.subI rfl rfl (by omega)) (by omega)) rfl ?_; go_step))
            | ((with_reducible show wpList _ _ _ (⟨_, .move _, _, _, _, _⟩ :: _) _ _); (first | go_big_want | go_step); go_step)
            | ((with_reducible show wpList _ _ _ (⟨_, .assign _, _, _, _, _⟩ :: _) _ _); (first | go_big_want | go_step); go_step)
            | ((with_reducible show wpList _ _ _ (⟨some 96, .call ⟨.builtin .len, _, _⟩, _, _, _, _⟩ :: _) _ _); (refine wplV _ (V.len Try.underlying49 rfl) (by kernel_rfl) ?_; go_step))
            | ((with_reducible show wpList _ _ _ (⟨some 99, .slice 49 _ _ _ _, _, _, _, _⟩ :: _) _ _); (refine wplV _ (V.slice Try.underlying49 isz48 rfl (by (first | exact Lo.none | exact Lo.some rfl (by (repeat (first | exact IsN.auto | with_reducible apply IsN.add | with_reducible apply IsN.sub | with_reducible apply IsN.mul | with_reducible apply IsN.div | with_reducible apply IsN.mod | with_reducible apply IsN.min | with_reducible apply IsN.max | (with_reducible show (_ : Nat) ≤ _; omega) | exact IsN.toNat (by omega)))))) (by (first | exact Up.none | exact Up.some rfl (by (repeat (first | exact IsN.auto | with_reducible apply IsN.add | with_reducible apply IsN.sub | with_reducible apply IsN.mul | with_reducible apply IsN.div | with_reducible apply IsN.mod | with_reducible apply IsN.min | with_reducible apply IsN.max | (with_reducible show (_ : Nat) ≤ _; omega) | exact IsN.toNat (by omega)))))) (by omega) (by omega)) (by kernel_rfl) ?_; go_step))
            | ((with_reducible show wpList _ _ _ (⟨some 100, .call ⟨.builtin .len, _, _⟩, _, _, _, _⟩ :: _) _ _); (refine wplV _ (V.len Try.underlying49 rfl) (by kernel_rfl) ?_; go_step))
            | ((with_reducible show wpList _ _ _ (⟨some 93, .makeMap 46 _, _, _, _, _⟩ :: _) _ _); (refine wpl (by kernel_rfl) ?_; apply wp_makeMap (o := ⟨some 93, _, _, _, _, _⟩) ik hS 46 rfl; clear hS; intro g93 w hS; refine put_move ?_; go_step))
            | ((fail_if_success (with_reducible show wpList _ _ _ (_ :: _) _ _)); go_step))
          replace hS := hS.sub (xs := [mp ik g93 (fun _ => none), gpks a8 M c8 G2, star (L.map Sr.res), prt g2 [.ints (List.replicate 16 0), .val (.slice none 0 0)]]) (by (repeat (first | exact Sub.nil | with_reducible exact Sub.refl | (apply Sub.cons; (case p => (repeat (first | with_reducible exact Pull.head | apply Pull.tail)))) | apply Sub.skip)))
          rw [cutAt_zero, Nat.sub_zero, Nat.sub_zero]
          rw [← cntF_nil] at hS
          go_loopg [101] Tn (fun gk iv w => ∃ (a : Nat), gk + a = Tn ∧ iv = .int .i64 a ∧ St w0 w [mp ik g93 (cntF (syl ((G2.map gpM).take a))), gpks a8 M c8 G2, star (L.map Sr.res), prt g2 [.ints (List.replicate 16 0), .val (.slice none 0 0)]])
          case atStart => exact ⟨0, by omega, rfl, hS⟩
          case round =>
            clear hS
            obtain ⟨a, ha, rfl, hS⟩ := hrel
            by_cases hlt3 : a < Tn
            · obtain ⟨gk2, hgk2⟩ : ∃ x, x = gk := ⟨_, rfl⟩
              subst hgk2
              obtain ⟨⟨pw, pa, pcp, px⟩, hp, e1, m1⟩ := gp_at G2 a (by omega)
              have hpr : (⟨pa, pcp, px⟩ : Sr) ∈ L := HL2.out _ hp
              have e1' : elt (G2.map gpV) a = ⟨pw, pa, px.length, pcp⟩ := e1
              have htk : syl ((G2.map gpM).take (a + 1)) = syl ((G2.map gpM).take a) ++ px := by
                have hlt4 : a < (G2.map gpM).length := by rw [List.length_map]; omega
                rw [List.take_succ_eq_append_getElem hlt4, syl_append, syl_cons]
                have : (G2.map gpM)[a] = gpM ⟨pw, ⟨pa, pcp, px⟩⟩ := by rw [← m1]; exact elt_get _ _ hlt4
                rw [this]; simp [gpM, syl]
              have hpl : px.length ≤ 5000 := (row_bd HRNG.out hn3 (by omega) HR2.out (gpM ⟨pw, ⟨pa, pcp, px⟩⟩) (List.mem_map.2 ⟨_, hp, rfl⟩)).2.2
              have HTK := hid htk
              have HPR := hid hpr
              have E1 := hid e1'
              obtain ⟨Y, hY⟩ : ∃ Y, syl ((G2.map gpM).take a) = Y := ⟨_, rfl⟩
              rw [hY] at hS HTK
              have HY := hid hY
              clear htk hpr e1' e1 m1 hp hY
              have he := pkE_len
              repeat' (first
                | ((with_reducible show wpList _ _ _ (⟨some 102, .binOp .lss _ _ _ _, _, _, _, _⟩ :: _) _ _); (refine wplV _ (V.lss rfl rfl) (by kernel_rfl) ?_; go_step))
                | ((with_reducible show wpList _ _ _ (⟨some 103, .indexAddr 49 _ _, _, _, _, _⟩ :: _) _ _); (refine wplV _ (V.indexSl Try.underlying49 isz48 rfl rfl (by (repeat (first | exact IsN.auto | with_reducible apply IsN.add | with_reducible apply IsN.sub | with_reducible apply IsN.mul | with_reducible apply IsN.div | with_reducible apply IsN.mod | with_reducible apply IsN.min | with_reducible apply IsN.max | (with_reducible show (_ : Nat) ≤ _; omega) | exact IsN.toNat (by omega)))) (by omega) rfl (by first | with_reducible exact Nat.zero_add _ | with_reducible exact Nat.add_zero _ | exact rfl)) (by kernel_rfl) ?_; go_step))
                | ((with_reducible show wpList _ _ _ (⟨_, .load 48 _, _, _, _, _⟩ :: _) _ _); (refine wpl (by kernel_rfl) ?_; apply wp_loadE hS 48 _ rfl _ _ rfl 2 (row_of rfl) _ _ _ _ _; (case hp => (repeat (first | with_reducible exact Pull.head | apply Pull.tail))); (case inst => infer_instance); (case he => with_reducible assumption); (case hq => exact rfl); (case hj => omega); refine put_move ?_; go_step))
                | ((with_reducible show wpList _ _ _ (⟨some 13, .alloc 48, _, _, _, _⟩ :: _) _ _); (refine wpl (by kernel_rfl) ?_; apply wp_alloc (o := ⟨some 13, _, _, _, _, _⟩) hS 48 rfl (.agg #[.int .i64 0, .slice none 0 0]) [.int .i64 0, .slice none 0 0] (fun w => Try.zeroValue48 w) rfl; clear hS; intro g13 w hS; refine put_move ?_; go_step))
                | ((with_reducible show wpList _ _ _ (⟨_, .store 48 _ _, _, _, _, _⟩ :: _) _ _); (refine wpl (by kernel_rfl) ?_; apply wp_storeG hS 48 _ _ rfl _ rfl 2 (row_of rfl) _ _; (case hp => (repeat (first | with_reducible exact Pull.head | apply Pull.tail))); (case hy => rfl); (case hn => rfl); (case hn' => rfl); (case hv => rfl); (case hd => exact rfl); clear hS; intro w hS))
                | ((fail_if_success (with_reducible show wpList _ _ _ (_ :: _) _ _)); go_step))
              rw [E1.out] at hS
              have hYl : Y.length ≤ 5000 := by
                have h1 := HR2.out.syll
                rw [sgs_syl, HNL.out] at h1
                have h2 : syl (G2.map gpM) = syl ((G2.map gpM).take a) ++ syl ((G2.map gpM).drop a) := by rw [← syl_append, List.take_append_drop]
                rw [h2, List.length_append, HY.out] at h1
                omega
              repeat' (first
                | ((with_reducible show wpList _ _ _ (⟨_, .move _, _, _, _, _⟩ :: _) _ _); (first | go_big_want | go_step); go_step)
                | ((with_reducible show wpList _ _ _ (⟨some 105, .fieldAddr 48 _ 1, _, _, _, _⟩ :: _) _ _); (refine wplV _ (V.fieldAddr fo48_1 rfl (by first | with_reducible exact Nat.zero_add _ | with_reducible exact Nat.add_zero _ | exact rfl)) (by kernel_rfl) ?_; go_step))
                | ((with_reducible show wpList _ _ _ (⟨some 107, .call ⟨.builtin .len, _, _⟩, _, _, _, _⟩ :: _) _ _); (refine wplV _ (V.len Try.underlying23 rfl) (by kernel_rfl) ?_; go_step))
                | ((with_reducible show wpList _ _ _ (⟨_, .load 23 _, _, _, _, _⟩ :: _) _ _); (refine wpl (by kernel_rfl) ?_; apply wp_load1 hS 23 _ rfl _ _ rfl (one_of rfl) _; (case hp => (repeat (first | with_reducible exact Pull.head | apply Pull.tail))); (case hc => rfl); refine put_move ?_; go_step))
                | ((fail_if_success (with_reducible show wpList _ _ _ (_ :: _) _ _)); go_step))
              replace hS := hS.sub (xs := [mp ik g93 (cntF Y), gpks a8 M c8 G2, star (L.map Sr.res), prt g2 [.ints (List.replicate 16 0), .val (.slice none 0 0)]]) (by (repeat (first | exact Sub.nil | with_reducible exact Sub.refl | (apply Sub.cons; (case p => (repeat (first | with_reducible exact Pull.head | apply Pull.tail)))) | apply Sub.skip)))
              go_loopg [108] px.length (fun gk iv w => ∃ (b : Nat), gk + b = px.length ∧ iv = .int .i64 b ∧ St w0 w [mp ik g93 (cntF (Y ++ px.take b)), gpks a8 M c8 G2, star (L.map Sr.res), prt g2 [.ints (List.replicate 16 0), .val (.slice none 0 0)]])
              case atStart => exact ⟨0, by omega, rfl, by rw [List.take_zero, List.append_nil]; exact hS⟩
              case round =>
                clear hS
                obtain ⟨b, hb, rfl, hS⟩ := hrel
                by_cases hlt4 : b < px.length
                · have hrow : Sl wr 1 (.slice pa px.length pcp) px.length (px.map (Value.int .i64)) := star_row hS (show Pull (star (L.map Sr.res)) _ _ from (by (repeat (first | with_reducible exact Pull.head | apply Pull.tail)))) HPR.out
                  obtain ⟨_, a1, c1, e1, _, _, hor⟩ := hrow
                  cases e1
                  rcases hor with h0 | ⟨b0, o0, rfl, hc⟩
                  · omega
                  have hcw := hc b (by omega)
                  rw [List.getElem?_map, get_nth px b hlt4] at hcw
                  replace hcw : wr.cell? ⟨b0, o0 + b, none⟩ = some (.int .i64 (nth px b)) := hcw
                  have htk2 : Y ++ px.take (b + 1) = (Y ++ px.take b) ++ [nth px b] := by
                    rw [List.take_succ_eq_append_getElem hlt4, List.append_assoc]
                    simp [nth, List.getD, hlt4]
                  have hZl : (Y ++ px.take b).length ≤ 10000 := by rw [List.length_append, List.length_take]; omega
                  obtain ⟨s, hs⟩ : ∃ s, nth px b = s := ⟨_, rfl⟩
                  obtain ⟨Z, hZ⟩ : ∃ Z, Y ++ px.take b = Z := ⟨_, rfl⟩
                  rw [hs] at hcw htk2
                  rw [hZ] at htk2 hZl hS
                  have hcl2 := List.count_le_length (a := s) (l := Z)
                  obtain ⟨m, hm⟩ : ∃ m, Z.count s = m := ⟨_, rfl⟩
                  have HTK2 := hid htk2
                  have HSN := hid (cntF_snoc Z s)
                  rw [hm] at hcl2 HSN
                  have hfe : cntF Z s = if m = 0 then none else some (.int .i64 (m : Nat)) := by rw [← hm]; rfl
                  clear hs hZ htk2 hc hm
                  repeat' (first
                    | ((with_reducible show wpList _ _ _ (⟨some 111, _, _, _, _, _⟩ :: _) _ _); refine wpl (by kernel_rfl) ?_; refine wp_load (o := ⟨some 111, _, _, _, _, _⟩) 3 _ rfl _ rfl (one_of rfl) _ hcw ?_; refine put_move ?_; go_step)
                    | ((with_reducible show wpList _ _ _ (⟨_, .move _, _, _, _, _⟩ :: _) _ _); (first | go_big_want | go_step); go_step)
                    | ((with_reducible show wpList _ _ _ (⟨_, .assign _, _, _, _, _⟩ :: _) _ _); (first | go_big_want | go_step); go_step)
                    | ((with_reducible show wpList _ _ _ (⟨some 109, .binOp .lss _ _ _ _, _, _, _, _⟩ :: _) _ _); (refine wplV _ (V.lss rfl rfl) (by kernel_rfl) ?_; go_step))
                    | ((with_reducible show wpList _ _ _ (⟨some 110, .indexAddr 23 _ _, _, _, _, _⟩ :: _) _ _); (refine wplV _ (V.indexSl Try.underlying23 isz3 rfl rfl (by (repeat (first | exact IsN.auto | with_reducible apply IsN.add | with_reducible apply IsN.sub | with_reducible apply IsN.mul | with_reducible apply IsN.div | with_reducible apply IsN.mod | with_reducible apply IsN.min | with_reducible apply IsN.max | (with_reducible show (_ : Nat) ≤ _; omega) | exact IsN.toNat (by omega)))) (by omega) (Nat.mul_one _) (by first | with_reducible exact Nat.zero_add _ | with_reducible exact Nat.add_zero _ | exact rfl)) (by kernel_rfl) ?_; go_step))
                    | ((fail_if_success (with_reducible show wpList _ _ _ (_ :: _) _ _)); go_step))
                  by_cases hm0 : m = 0
                  · rw [if_pos hm0] at hfe
                    repeat' (first
                      | ((with_reducible show wpList _ _ _ (⟨some 115, .binOp .add _ _ _ _, _, _, _, _⟩ :: _) _ _); (refine wplV (.int _ (((m + 1 : Nat) : Int))) (V.as (V.addI rfl rfl (by omega)) (by omega)) rfl ?_; go_step))
                      | ((with_reducible show wpList _ _ _ (⟨some 116, .binOp .add _ _ _ _, _, _, _, _⟩ :: _) _ _); (refine wplV (.int _ (((b + 1 : Nat) : Int))) (V.as (V.addI rfl rfl (by omega)) (by omega)) rfl ?_; go_step))
                      | ((with_reducible show wpList _ _ _ (⟨_, .move _, _, _, _, _⟩ :: _) _ _); (first | go_big_want | go_step); go_step)
                      | ((with_reducible show wpList _ _ _ (⟨some 114, .lookup 46 _ _ _, _, _, _, _⟩ :: _) _ _); (refine wpl (by kernel_rfl) ?_; apply wp_lookupN (enc := ik) hS 46 _ _ rfl _ rfl _ rfl Try.underlying46 (keyLaw_int Try.underlying3) (.int .i64 0) (fun w => Try.zeroValue3 w) _; (case hp => (repeat (first | with_reducible exact Pull.head | apply Pull.tail))); (case hf => with_reducible assumption); refine put_move ?_; go_step))
                      | ((with_reducible show wpList _ _ _ (⟨_, .mapUpdate 46 _ _ _, _, _, _, _⟩ :: _) _ _); (refine wpl (by kernel_rfl) ?_; apply wp_mapUpdate (enc := ik) hS 46 _ _ _ rfl _ rfl _ rfl Try.underlying46 (keyLaw_int Try.underlying3) _; (case hp => (repeat (first | with_reducible exact Pull.head | apply Pull.tail))); (case hv => (first | exact IsV.int rfl | exact IsV.bool rfl | exact IsV.slice rfl | exact IsV.pointer rfl | exact IsV.string rfl | exact IsV.map rfl | exact IsV.func rfl | exact IsV.agg rfl)); (case hd => exact rfl); clear hS; intro w hS))
                      | ((fail_if_success (with_reducible show wpList _ _ _ (_ :: _) _ _)); go_step))
                    rw [HSN.out] at hS
                    go_roundg (gk - 1)
                    case measure => omega
                    case rel => exact ⟨b + 1, by omega, by go_num, by rw [HTK2.out]; exact hS⟩
                  · rw [if_neg hm0] at hfe
                    repeat' (first
                      | ((with_reducible show wpList _ _ _ (⟨some 115, .binOp .add _ _ _ _, _, _, _, _⟩ :: _) _ _); (refine wplV (.int _ (((m + 1 : Nat) : Int))) (V.as (V.addI rfl rfl (by omega)) (by omega)) rfl ?_; go_step))
                      | ((with_reducible show wpList _ _ _ (⟨some 116, .binOp .add _ _ _ _, _, _, _, _⟩ :: _) _ _); (refine wplV (.int _ (((b + 1 : Nat) : Int))) (V.as (V.addI rfl rfl (by omega)) (by omega)) rfl ?_; go_step))
                      | ((with_reducible show wpList _ _ _ (⟨_, .move _, _, _, _, _⟩ :: _) _ _); (first | go_big_want | go_step); go_step)
                      | ((with_reducible show wpList _ _ _ (⟨some 114, .lookup 46 _ _ _, _, _, _, _⟩ :: _) _ _); (refine wpl (by kernel_rfl) ?_; apply wp_lookupS (enc := ik) hS 46 _ _ rfl _ rfl _ rfl Try.underlying46 (keyLaw_int Try.underlying3) (.int .i64 0) (fun w => Try.zeroValue3 w) _; (case hp => (repeat (first | with_reducible exact Pull.head | apply Pull.tail))); (case hf => with_reducible assumption); refine put_move ?_; go_step))
                      | ((with_reducible show wpList _ _ _ (⟨_, .mapUpdate 46 _ _ _, _, _, _, _⟩ :: _) _ _); (refine wpl (by kernel_rfl) ?_; apply wp_mapUpdate (enc := ik) hS 46 _ _ _ rfl _ rfl _ rfl Try.underlying46 (keyLaw_int Try.underlying3) _; (case hp => (repeat (first | with_reducible exact Pull.head | apply Pull.tail))); (case hv => (first | exact IsV.int rfl | exact IsV.bool rfl | exact IsV.slice rfl | exact IsV.pointer rfl | exact IsV.string rfl | exact IsV.map rfl | exact IsV.func rfl | exact IsV.agg rfl)); (case hd => exact rfl); clear hS; intro w hS))
                      | ((fail_if_success (with_reducible show wpList _ _ _ (_ :: _) _ _)); go_step))
                    rw [HSN.out] at hS
                    go_roundg (gk - 1)
                    case measure => omega
                    case rel => exact ⟨b + 1, by omega, by go_num, by rw [HTK2.out]; exact hS⟩
                · obtain rfl : b = px.length := by omega
                  rw [List.take_length, ← HTK.out] at hS
                  repeat' (first
                    | ((with_reducible show wpList _ _ _ (⟨some 109, .binOp .lss _ _ _ _, _, _, _, _⟩ :: _) _ _); (refine wplV _ (V.lss rfl rfl) (by kernel_rfl) ?_; go_step))
                    | ((fail_if_success (with_reducible show wpList _ _ _ (_ :: _) _ _)); go_step))
                  repeat' (first
                    | ((with_reducible show wpList _ _ _ (⟨some 117, .binOp .add _ _ _ _, _, _, _, _⟩ :: _) _ _); (refine wplV (.int _ (((a + 1 : Nat) : Int))) (V.as (V.addI rfl rfl (by omega)) (by omega)) rfl ?_; go_step))
                    | ((with_reducible show wpList _ _ _ (⟨_, .move _, _, _, _, _⟩ :: _) _ _); (first | go_big_want | go_step); go_step)
                    | ((fail_if_success (with_reducible show wpList _ _ _ (_ :: _) _ _)); go_step))
                  go_roundg (gk2 - 1)
                  case measure => omega
                  case rel => exact ⟨a + 1, by omega, by go_num, hS⟩
            · obtain rfl : a = Tn := by omega
              have HFE : Hid (∀ s, cntF (syl ((G2.map gpM).take a)) s = if f s = 0 then none else some (.int .i64 (f s : Nat))) := fun s => by rw [hf]; rfl
              obtain ⟨F, hF⟩ : ∃ F, cntF (syl ((G2.map gpM).take a)) = F := ⟨_, rfl⟩
              rw [hF] at hS HFE
              have hf16 : ∀ s, f s ≤ 5000 := fun s => by
                rw [hf]
                have h1 := HR2.out.syll
                rw [sgs_syl, HNL.out] at h1
                have h2 : syl (G2.map gpM) = syl ((G2.map gpM).take a) ++ syl ((G2.map gpM).drop a) := by rw [← syl_append, List.take_append_drop]
                rw [h2, List.length_append] at h1
                have h3 := List.count_le_length (a := s) (l := syl ((G2.map gpM).take a))
                unfold lng
                omega
              have HF16 := hid hf16
              have HFF : Hid (f = lng ((G2.map gpM).take (2 * (sgs c k).length - 2))) := by unfold Hid; rw [HNL.out, hTn]; exact hf
              clear hF hf hf16
              replace hS := hS.sub (xs := [mp ik g93 F, prt g2 [.ints (List.replicate 16 0), .val (.slice none 0 0)]]) (by (repeat (first | exact Sub.nil | with_reducible exact Sub.refl | (apply Sub.cons; (case p => (repeat (first | with_reducible exact Pull.head | apply Pull.tail)))) | apply Sub.skip)))
              repeat' (first
                | ((with_reducible show wpList _ _ _ (⟨some 102, .binOp .lss _ _ _ _, _, _, _, _⟩ :: _) _ _); (refine wplV _ (V.lss rfl rfl) (by kernel_rfl) ?_; go_step))
                | ((fail_if_success (with_reducible show wpList _ _ _ (_ :: _) _ _)); go_step))
              repeat' (first
                | ((with_reducible show wpList _ _ _ (⟨_, .move _, _, _, _, _⟩ :: _) _ _); (first | go_big_want | go_step); go_step)
                | ((with_reducible show wpList _ _ _ (⟨some 16, .alloc 25, _, _, _, _⟩ :: _) _ _); (refine wpl (by kernel_rfl) ?_; apply wp_allocP (o := ⟨some 16, _, _, _, _, _⟩) hS 25 rfl _ zp25; clear hS; intro g16 w hS; refine put_move ?_; go_step))
                | ((fail_if_success (with_reducible show wpList _ _ _ (_ :: _) _ _)); go_step))
              replace hS := ((hS.sub (xs := [mp ik g93 F, prt g2 [.ints (List.replicate 16 0), .val (.slice none 0 0)], prt g16 [.ints (List.replicate 16 0), .val (.slice none 0 0)]]) (by (repeat (first | exact Sub.nil | with_reducible exact Sub.refl | (apply Sub.cons; (case p => (repeat (first | with_reducible exact Pull.head | apply Pull.tail)))) | apply Sub.skip)))).nilk 3 1 .i64)
              go_loopg [118] 16 (fun gk iv w => ∃ (q ls : Nat) (C S : List Int) (ao : Option Addr) (co : Nat), gk + q = 16 ∧ iv = .int .i64 q ∧ ls = S.length ∧ Len C 16 ∧ (∀ i, i < 16 → nth C i = cntTo f k q 0 i) ∧ S = symsTo f k q ∧ St w0 w [own 3 1 ao ls co (S.map (Value.int .i64)), mp ik g93 F, prt g2 [.ints (List.replicate 16 0), .val (.slice none 0 0)], prt g16 [.ints C, .val (.slice ao ls co)]])
              case atStart => exact ⟨0, 0, List.replicate 16 0, [], none, 0, by omega, rfl, rfl, Len.rep, fun i hi => by rw [nth_zeros]; unfold cntTo; rw [if_neg (by omega)]; split <;> rfl, rfl, hS⟩
              case round =>
                clear hS
                obtain ⟨q, ls, C, S, ao, co, hq, rfl, hls, hC, hCn, hSe, hS⟩ := hrel
                have HCN := hid hCn
                have HSE := hid hSe
                clear hCn hSe
                by_cases hlt5 : q < 16
                · obtain ⟨gk3, hgk3⟩ : ∃ x, x = gk := ⟨_, rfl⟩
                  subst hgk3
                  have HLS : Hid (S.length ≤ 16 * 256) := by
                    unfold Hid
                    rw [HSE.out]
                    have h1 := symsTo_len f k q
                    have h2 : q * k ≤ 16 * 256 := Nat.mul_le_mul (by omega) (by omega)
                    omega
                  repeat' (first
                    | ((with_reducible show wpList _ _ _ (⟨_, .move _, _, _, _, _⟩ :: _) _ _); (first | go_big_want | go_step); go_step)
                    | ((with_reducible show wpList _ _ _ (⟨_, .assign _, _, _, _, _⟩ :: _) _ _); (first | go_big_want | go_step); go_step)
                    | ((with_reducible show wpList _ _ _ (⟨some 119, .binOp .lss _ _ _ _, _, _, _, _⟩ :: _) _ _); (refine wplV _ (V.lss rfl rfl) (by kernel_rfl) ?_; go_step))
                    | ((with_reducible show wpList _ _ _ (⟨some 122, .call ⟨.builtin .len, _, _⟩, _, _, _, _⟩ :: _) _ _); (refine wplV _ (V.len Try.underlying23 rfl) (by kernel_rfl) ?_; go_step))
                    | ((fail_if_success (with_reducible show wpList _ _ _ (_ :: _) _ _)); go_step))
                  go_loopg [123] k (fun gk iv w => ∃ (s ls : Nat) (C S' : List Int) (ao : Option Addr) (co : Nat), gk + s = k ∧ iv = .int .i64 s ∧ ls = S'.length ∧ Len C 16 ∧ (∀ i, i < 16 → nth C i = cntTo f k q s i) ∧ S' = S ++ symsK f s (q + 1) ∧ St w0 w [own 3 1 ao ls co (S'.map (Value.int .i64)), mp ik g93 F, prt g2 [.ints (List.replicate 16 0), .val (.slice none 0 0)], prt g16 [.ints C, .val (.slice ao ls co)]])
                  case atStart => exact ⟨0, ls, C, S, ao, co, by omega, rfl, hls, hC, HCN.out, by simp [symsK], hS⟩
                  case round =>
                    clear hS hC HCN
                    obtain ⟨s, ls, C, S', ao, co, hs, rfl, hls2, hC, hCn, hSe, hS⟩ := hrel
                    have HCN := hid hCn
                    have HSE2 := hid hSe
                    have hS'l : ls ≤ 10000 := by
                      rw [hls2, hSe, List.length_append]
                      have := symsK_len f s (q + 1)
                      have := HLS.out
                      omega
                    clear hCn hSe
                    by_cases hlt6 : s < k
                    · have hfe := HFE.out (s : Int)
                      have hf5 := HF16.out (s : Int)
                      obtain ⟨fs, hfs⟩ : ∃ fs, f (s : Int) = fs := ⟨_, rfl⟩
                      rw [hfs] at hfe hf5
                      have hsk := symsK_succ f s (q + 1)
                      rw [hfs] at hsk
                      by_cases hfq : fs = q + 1
                      · rw [if_neg (by omega)] at hfe
                        rw [if_pos hfq] at hsk
                        have hnq := HCN.out q hlt5
                        have hbq : nth C q = ((symsK f s (q + 1)).length : Nat) := by
                          rw [hnq]; unfold cntTo; rw [if_neg (by omega), if_pos rfl]
                        have hbl := symsK_len f s (q + 1)
                        have HSK := hid hsk
                        have HBQ := hid hbq
                        have hbb : 0 ≤ nth C q ∧ nth C q ≤ 256 := by rw [hbq]; omega
                        clear hsk hfs hnq hbq hbl
                        repeat' (first
                          | ((with_reducible show wpList _ _ _ (⟨some 130, .binOp .add _ _ _ _, _, _, _, _⟩ :: _) _ _); (refine wplV (.int _ (((q + 1 : Nat) : Int))) (V.as (V.addI rfl rfl (by omega)) (by omega)) rfl ?_; go_step))
                          | ((with_reducible show wpList _ _ _ (⟨_, .move _, _, _, _, _⟩ :: _) _ _); (first | go_big_want | go_step); go_step)
                          | ((with_reducible show wpList _ _ _ (⟨_, .assign _, _, _, _, _⟩ :: _) _ _); (first | go_big_want | go_step); go_step)
                          | ((with_reducible show wpList _ _ _ (⟨some 124, .binOp .lss _ _ _ _, _, _, _, _⟩ :: _) _ _); (refine wplV _ (V.lss rfl rfl) (by kernel_rfl) ?_; go_step))
                          | ((with_reducible show wpList _ _ _ (⟨some 131, .binOp .eql 3 _ _ _, _, _, _, _⟩ :: _) _ _); (refine wplV _ (V.eql rfl rfl) (by kernel_rfl) ?_; go_step))
                          | ((with_reducible show wpList _ _ _ (⟨some 128, .lookup 46 _ _ _, _, _, _, _⟩ :: _) _ _); (refine wpl (by kernel_rfl) ?_; apply wp_lookupS (enc := ik) hS 46 _ _ rfl _ rfl _ rfl Try.underlying46 (keyLaw_int Try.underlying3) (.int .i64 0) (fun w => Try.zeroValue3 w) _; (case hp => (repeat (first | with_reducible exact Pull.head | apply Pull.tail))); (case hf => with_reducible assumption); refine put_move ?_; go_step))
                          | ((fail_if_success (with_reducible show wpList _ _ _ (_ :: _) _ _)); go_step))
                        repeat' (first
                          | ((with_reducible show wpList _ _ _ (⟨_, .move _, _, _, _, _⟩ :: _) _ _); (first | go_big_want | go_step); go_step)
                          | ((with_reducible show wpList _ _ _ (⟨some 133, .fieldAddr 25 _ 0, _, _, _, _⟩ :: _) _ _); (refine wplV _ (V.fieldAddr fo25_0 rfl (by first | with_reducible exact Nat.zero_add _ | with_reducible exact Nat.add_zero _ | exact rfl)) (by kernel_rfl) ?_; go_step))
                          | ((with_reducible show wpList _ _ _ (⟨some 134, .indexAddr 22 _ _, _, _, _, _⟩ :: _) _ _); (refine wplV _ (V.indexAr Try.underlying22 isz3 rfl rfl (by (repeat (first | exact IsN.auto | with_reducible apply IsN.add | with_reducible apply IsN.sub | with_reducible apply IsN.mul | with_reducible apply IsN.div | with_reducible apply IsN.mod | with_reducible apply IsN.min | with_reducible apply IsN.max | (with_reducible show (_ : Nat) ≤ _; omega) | exact IsN.toNat (by omega)))) (by omega) (Nat.mul_one _) (by first | with_reducible exact Nat.zero_add _ | with_reducible exact Nat.add_zero _ | exact rfl)) (by kernel_rfl) ?_; go_step))
                          | ((with_reducible show wpList _ _ _ (⟨some 136, .binOp .add _ _ _ _, _, _, _, _⟩ :: _) _ _); (refine wplV _ (V.addI rfl rfl (by omega)) (by kernel_rfl) ?_; go_step))
                          | ((with_reducible show wpList _ _ _ (⟨some 137, .fieldAddr 25 _ 0, _, _, _, _⟩ :: _) _ _); (refine wplV _ (V.fieldAddr fo25_0 rfl (by first | with_reducible exact Nat.zero_add _ | with_reducible exact Nat.add_zero _ | exact rfl)) (by kernel_rfl) ?_; go_step))
                          | ((with_reducible show wpList _ _ _ (⟨some 138, .indexAddr 22 _ _, _, _, _, _⟩ :: _) _ _); (refine wplV _ (V.indexAr Try.underlying22 isz3 rfl rfl (by (repeat (first | exact IsN.auto | with_reducible apply IsN.add | with_reducible apply IsN.sub | with_reducible apply IsN.mul | with_reducible apply IsN.div | with_reducible apply IsN.mod | with_reducible apply IsN.min | with_reducible apply IsN.max | (with_reducible show (_ : Nat) ≤ _; omega) | exact IsN.toNat (by omega)))) (by omega) (Nat.mul_one _) (by first | with_reducible exact Nat.zero_add _ | with_reducible exact Nat.add_zero _ | exact rfl)) (by kernel_rfl) ?_; go_step))
                          | ((with_reducible show wpList _ _ _ (⟨some 139, .fieldAddr 25 _ 1, _, _, _, _⟩ :: _) _ _); (refine wplV _ (V.fieldAddr fo25_1 rfl (by first | with_reducible exact Nat.zero_add _ | with_reducible exact Nat.add_zero _ | exact rfl)) (by kernel_rfl) ?_; go_step))
                          | ((with_reducible show wpList _ _ _ (⟨some 144, .fieldAddr 25 _ 1, _, _, _, _⟩ :: _) _ _); (refine wplV _ (V.fieldAddr fo25_1 rfl (by first | with_reducible exact Nat.zero_add _ | with_reducible exact Nat.add_zero _ | exact rfl)) (by kernel_rfl) ?_; go_step))
                          | ((with_reducible show wpList _ _ _ (⟨_, .load 3 _, _, _, _, _⟩ :: _) _ _); (refine wpl (by kernel_rfl) ?_; apply wp_load1P hS 3 _ rfl _ _ rfl (one_of rfl) _; (case hp => (repeat (first | with_reducible exact Pull.head | apply Pull.tail))); (case hi => (repeat (first | (apply AtI.head; (case hn => (first | (with_reducible assumption) | exact Len.rep | exact Len.set (by with_reducible assumption) | exact Len.set Len.rep | exact Len.set (Len.set Len.rep))); (case h => omega)) | (apply AtI.skipI; (case hn => (first | (with_reducible assumption) | exact Len.rep | exact Len.set (by with_reducible assumption) | exact Len.set Len.rep | exact Len.set (Len.set Len.rep))); (case h => omega); (case ho => rfl)) | apply AtI.skipV))); refine put_move ?_; go_step))
                          | ((with_reducible show wpList _ _ _ (⟨_, .store 3 _ _, _, _, _, _⟩ :: _) _ _); (refine wpl (by kernel_rfl) ?_; apply wp_store1P hS 3 _ _ rfl _ _ rfl (one_of rfl) _ _; (case hp => (repeat (first | with_reducible exact Pull.head | apply Pull.tail))); (case hy => rfl); (case hi => (repeat (first | (apply PutI.head; (case hn => (first | (with_reducible assumption) | exact Len.rep | exact Len.set (by with_reducible assumption) | exact Len.set Len.rep | exact Len.set (Len.set Len.rep))); (case h => omega)) | (apply PutI.skipI; (case hn => (first | (with_reducible assumption) | exact Len.rep | exact Len.set (by with_reducible assumption) | exact Len.set Len.rep | exact Len.set (Len.set Len.rep))); (case h => omega); (case ho => rfl)) | apply PutI.skipV))); (case hd => exact rfl); clear hS; intro w hS))
                          | ((with_reducible show wpList _ _ _ (⟨_, .load 23 _, _, _, _, _⟩ :: _) _ _); (refine wpl (by kernel_rfl) ?_; apply wp_loadVP hS 23 _ rfl _ _ rfl (one_of rfl) _; (case hp => (repeat (first | with_reducible exact Pull.head | apply Pull.tail))); (case hi => (repeat (first | exact AtV.head | (apply AtV.skipI; (case hn => (first | (with_reducible assumption) | exact Len.rep | exact Len.set (by with_reducible assumption) | exact Len.set Len.rep | exact Len.set (Len.set Len.rep))); (case h => omega); (case ho => rfl)) | apply AtV.skipV))); refine put_move ?_; go_step))
                          | ((with_reducible show wpList _ _ _ (⟨some 142, .buildSlice 23 _ _, _, _, _, _⟩ :: _) _ _); (refine wpl (by kernel_rfl) ?_; apply wp_buildSlice1 (o := ⟨some 142, _, _, _, _, _⟩) hS 23 1 _ rfl 3 1 8 el23 _ _; (case hvs => (repeat (first | exact Parts.nil | (apply Parts.agg; (rfl); (rfl)) | (apply Parts.one; (first | exact IsV.int rfl | exact IsV.bool rfl | exact IsV.slice rfl | exact IsV.pointer rfl | exact IsV.string rfl | exact IsV.map rfl | exact IsV.func rfl); (rfl); (rfl))))); (case hn => rfl); (case hn0 => decide); (case hns => decide); clear hS; intro g142 w hS; refine put_move ?_; go_step))
                          | ((with_reducible show wpList _ _ _ (⟨some 143, .call ⟨.builtin .append, _, _⟩, _, _, _, _⟩ :: _) _ _); (refine wpl (by kernel_rfl) ?_; apply wp_append (o := ⟨some 143, _, _, _, _, _⟩) hS _ _ 23 rfl 3 1 8 el23 _ _ _ _ rfl; (case hp => (repeat (first | with_reducible exact Pull.head | apply Pull.tail))); (case hx => exact rfl); (case hm => (first | exact hS.slBlk (by (repeat (first | with_reducible exact Pull.head | apply Pull.tail))) (by rfl) (by decide) | exact hS.sl (by (repeat (first | with_reducible exact Pull.head | apply Pull.tail))) | with_reducible assumption | exact Sl.ext (by with_reducible assumption) hS.1 | exact Sl.nil _ _ | exact Sl.ext (by assumption) hS.1 | assumption)); (case h1 => (first | exact oneAll rfl | exact oneMap _ _ | (intro u hu; cases hu))); (case h63 => unfold maxLen; omega); (case hb => omega); clear hS; intro ad143 c143 w hS; (first | simp only [mapk1] at hS | simp only [mapk2] at hS | simp only [mapk3] at hS | simp only [mapk4] at hS | simp only [mapkl] at hS | skip); refine put_move ?_; go_step))
                          | ((with_reducible show wpList _ _ _ (⟨_, .store 23 _ _, _, _, _, _⟩ :: _) _ _); (refine wpl (by kernel_rfl) ?_; apply wp_storeVP hS 23 _ _ rfl _ _ rfl (one_of rfl) _ _; (case hp => (repeat (first | with_reducible exact Pull.head | apply Pull.tail))); (case hy => (first | exact IsV.int rfl | exact IsV.bool rfl | exact IsV.slice rfl | exact IsV.pointer rfl | exact IsV.string rfl | exact IsV.map rfl | exact IsV.func rfl)); (case hz => rfl); (case hi => (repeat (first | exact PutV.head | (apply PutV.skipI; (case hn => (first | (with_reducible assumption) | exact Len.rep | exact Len.set (by with_reducible assumption) | exact Len.set Len.rep | exact Len.set (Len.set Len.rep))); (case h => omega); (case ho => rfl)) | apply PutV.skipV))); (case hd => exact rfl); clear hS; intro w hS))
                          | ((fail_if_success (with_reducible show wpList _ _ _ (_ :: _) _ _)); go_step))
                        repeat' (first
                          | ((with_reducible show wpList _ _ _ (⟨some 145, .binOp .add _ _ _ _, _, _, _, _⟩ :: _) _ _); (refine wplV (.int _ (((s + 1 : Nat) : Int))) (V.as (V.addI rfl rfl (by omega)) (by omega)) rfl ?_; go_step))
                          | ((with_reducible show wpList _ _ _ (⟨_, .move _, _, _, _, _⟩ :: _) _ _); (first | go_big_want | go_step); go_step)
                          | ((fail_if_success (with_reducible show wpList _ _ _ (_ :: _) _ _)); go_step))
                        go_roundg (gk - 1)
                        case measure => omega
                        case rel =>
                          refine ⟨s + 1, ls + 1, C.set q (nth C q + 1), S' ++ [(s : Int)], ad143, c143, by omega, by go_num, by rw [List.length_append, ← hls2]; rfl, hC.set, fun i hi => ?_, by rw [HSE2.out, HSK.out, List.append_assoc], hS.sub (by (repeat (first | exact Sub.nil | with_reducible exact Sub.refl | (apply Sub.cons; (case p => (repeat (first | with_reducible exact Pull.head | apply Pull.tail)))) | apply Sub.skip)))⟩
                          rw [nth_set _ _ _ _ (by rw [hC.out]; exact hlt5)]
                          unfold cntTo
                          by_cases hiq : q = i
                          · subst hiq
                            rw [if_pos rfl, if_neg (by omega), if_pos rfl, HSK.out, HBQ.out, List.length_append]; rfl
                          · rw [if_neg hiq, HCN.out i hi]
                            unfold cntTo
                            by_cases hi2 : i < q
                            · rw [if_pos hi2, if_pos hi2]
                            · rw [if_neg hi2, if_neg hi2, if_neg (by omega), if_neg (by omega)]
                      · rw [if_neg hfq] at hsk
                        have HSK := hid hsk
                        have HN2 : Hid (∀ i, i < 16 → nth C i = cntTo f k q (s + 1) i) := fun i hi => by
                          rw [HCN.out i hi]
                          unfold cntTo
                          by_cases hi2 : i < q
                          · rw [if_pos hi2, if_pos hi2]
                          · by_cases hi3 : i = q
                            · subst hi3; rw [if_neg hi2, if_neg hi2, if_pos rfl, if_pos rfl, hsk]
                            · rw [if_neg hi2, if_neg hi2, if_neg hi3, if_neg hi3]
                        clear hsk hfs
                        by_cases hf0 : fs = 0
                        · rw [if_pos hf0] at hfe
                          repeat' (first
                            | ((with_reducible show wpList _ _ _ (⟨some 130, .binOp .add _ _ _ _, _, _, _, _⟩ :: _) _ _); (refine wplV (.int _ (((q + 1 : Nat) : Int))) (V.as (V.addI rfl rfl (by omega)) (by omega)) rfl ?_; go_step))
                            | ((with_reducible show wpList _ _ _ (⟨_, .move _, _, _, _, _⟩ :: _) _ _); (first | go_big_want | go_step); go_step)
                            | ((with_reducible show wpList _ _ _ (⟨_, .assign _, _, _, _, _⟩ :: _) _ _); (first | go_big_want | go_step); go_step)
                            | ((with_reducible show wpList _ _ _ (⟨some 124, .binOp .lss _ _ _ _, _, _, _, _⟩ :: _) _ _); (refine wplV _ (V.lss rfl rfl) (by kernel_rfl) ?_; go_step))
                            | ((with_reducible show wpList _ _ _ (⟨some 131, .binOp .eql 3 _ _ _, _, _, _, _⟩ :: _) _ _); (refine wplV _ (V.eql rfl rfl) (by kernel_rfl) ?_; go_step))
                            | ((with_reducible show wpList _ _ _ (⟨some 128, .lookup 46 _ _ _, _, _, _, _⟩ :: _) _ _); (refine wpl (by kernel_rfl) ?_; apply wp_lookupN (enc := ik) hS 46 _ _ rfl _ rfl _ rfl Try.underlying46 (keyLaw_int Try.underlying3) (.int .i64 0) (fun w => Try.zeroValue3 w) _; (case hp => (repeat (first | with_reducible exact Pull.head | apply Pull.tail))); (case hf => with_reducible assumption); refine put_move ?_; go_step))
                            | ((fail_if_success (with_reducible show wpList _ _ _ (_ :: _) _ _)); go_step))
                          repeat' (first
                            | ((with_reducible show wpList _ _ _ (⟨some 145, .binOp .add _ _ _ _, _, _, _, _⟩ :: _) _ _); (refine wplV (.int _ (((s + 1 : Nat) : Int))) (V.as (V.addI rfl rfl (by omega)) (by omega)) rfl ?_; go_step))
                            | ((with_reducible show wpList _ _ _ (⟨_, .move _, _, _, _, _⟩ :: _) _ _); (first | go_big_want | go_step); go_step)
                            | ((fail_if_success (with_reducible show wpList _ _ _ (_ :: _) _ _)); go_step))
                          go_roundg (gk - 1)
                          case measure => omega
                          case rel => exact ⟨s + 1, ls, C, S', ao, co, by omega, by go_num, hls2, hC, HN2.out, by rw [HSE2.out, HSK.out], hS.sub (by (repeat (first | exact Sub.nil | with_reducible exact Sub.refl | (apply Sub.cons; (case p => (repeat (first | with_reducible exact Pull.head | apply Pull.tail)))) | apply Sub.skip)))⟩
                        · rw [if_neg hf0] at hfe
                          repeat' (first
                            | ((with_reducible show wpList _ _ _ (⟨some 130, .binOp .add _ _ _ _, _, _, _, _⟩ :: _) _ _); (refine wplV (.int _ (((q + 1 : Nat) : Int))) (V.as (V.addI rfl rfl (by omega)) (by omega)) rfl ?_; go_step))
                            | ((with_reducible show wpList _ _ _ (⟨_, .move _, _, _, _, _⟩ :: _) _ _); (first | go_big_want | go_step); go_step)
                            | ((with_reducible show wpList _ _ _ (⟨_, .assign _, _, _, _, _⟩ :: _) _ _); (first | go_big_want | go_step); go_step)
                            | ((with_reducible show wpList _ _ _ (⟨some 124, .binOp .lss _ _ _ _, _, _, _, _⟩ :: _) _ _); (refine wplV _ (V.lss rfl rfl) (by kernel_rfl) ?_; go_step))
                            | ((with_reducible show wpList _ _ _ (⟨some 131, .binOp .eql 3 _ _ _, _, _, _, _⟩ :: _) _ _); (refine wplV _ (V.eql rfl rfl) (by kernel_rfl) ?_; go_step))
                            | ((with_reducible show wpList _ _ _ (⟨some 128, .lookup 46 _ _ _, _, _, _, _⟩ :: _) _ _); (refine wpl (by kernel_rfl) ?_; apply wp_lookupS (enc := ik) hS 46 _ _ rfl _ rfl _ rfl Try.underlying46 (keyLaw_int Try.underlying3) (.int .i64 0) (fun w => Try.zeroValue3 w) _; (case hp => (repeat (first | with_reducible exact Pull.head | apply Pull.tail))); (case hf => with_reducible assumption); refine put_move ?_; go_step))
                            | ((fail_if_success (with_reducible show wpList _ _ _ (_ :: _) _ _)); go_step))
                          repeat' (first
                            | ((with_reducible show wpList _ _ _ (⟨some 145, .binOp .add _ _ _ _, _, _, _, _⟩ :: _) _ _); (refine wplV (.int _ (((s + 1 : Nat) : Int))) (V.as (V.addI rfl rfl (by omega)) (by omega)) rfl ?_; go_step))
                            | ((with_reducible show wpList _ _ _ (⟨_, .move _, _, _, _, _⟩ :: _) _ _); (first | go_big_want | go_step); go_step)
                            | ((fail_if_success (with_reducible show wpList _ _ _ (_ :: _) _ _)); go_step))
                          go_roundg (gk - 1)
                          case measure => omega
                          case rel => exact ⟨s + 1, ls, C, S', ao, co, by omega, by go_num, hls2, hC, HN2.out, by rw [HSE2.out, HSK.out], hS.sub (by (repeat (first | exact Sub.nil | with_reducible exact Sub.refl | (apply Sub.cons; (case p => (repeat (first | with_reducible exact Pull.head | apply Pull.tail)))) | apply Sub.skip)))⟩
                    · obtain rfl : s = k := by omega
                      repeat' (first
                        | ((with_reducible show wpList _ _ _ (⟨some 124, .binOp .lss _ _ _ _, _, _, _, _⟩ :: _) _ _); (refine wplV _ (V.lss rfl rfl) (by kernel_rfl) ?_; go_step))
                        | ((fail_if_success (with_reducible show wpList _ _ _ (_ :: _) _ _)); go_step))
                      repeat' (first
                        | ((with_reducible show wpList _ _ _ (⟨some 146, .binOp .add _ _ _ _, _, _, _, _⟩ :: _) _ _); (refine wplV (.int _ (((q + 1 : Nat) : Int))) (V.as (V.addI rfl rfl (by omega)) (by omega)) rfl ?_; go_step))
                        | ((with_reducible show wpList _ _ _ (⟨_, .move _, _, _, _, _⟩ :: _) _ _); (first | go_big_want | go_step); go_step)
                        | ((fail_if_success (with_reducible show wpList _ _ _ (_ :: _) _ _)); go_step))
                      go_roundg (gk3 - 1)
                      case measure => omega
                      case rel =>
                        refine ⟨q + 1, ls, C, S', ao, co, by omega, by go_num, hls2, hC, fun i hi => ?_, by rw [HSE2.out, HSE.out, symsTo_succ], hS⟩
                        rw [HCN.out i hi]
                        unfold cntTo
                        by_cases hi2 : i < q
                        · rw [if_pos hi2, if_pos (by omega)]
                        · by_cases hi3 : i = q
                          · subst hi3; rw [if_neg hi2, if_pos rfl, if_pos (by omega)]
                          · rw [if_neg hi2, if_neg hi3, if_neg (by omega)]
                            split <;> rfl
                · obtain rfl : q = 16 := by omega
                  have hCf : ∀ i, i < 16 → nth C i = ((symsK f k (i + 1)).length : Nat) := fun i hi => by
                    rw [HCN.out i hi]; unfold cntTo; rw [if_pos hi]
                  have HCF := hid hCf
                  clear hCf HCN
                  repeat' (first
                    | ((with_reducible show wpList _ _ _ (⟨some 119, .binOp .lss _ _ _ _, _, _, _, _⟩ :: _) _ _); (refine wplV _ (V.lss rfl rfl) (by kernel_rfl) ?_; go_step))
                    | ((fail_if_success (with_reducible show wpList _ _ _ (_ :: _) _ _)); go_step))
                  repeat' (first
                    | ((with_reducible show wpList _ _ _ (⟨_, .assign _, _, _, _, _⟩ :: _) _ _); (first | go_big_want | go_step); go_step)
                    | ((with_reducible show wpList _ _ _ (⟨_, .load 25 _, _, _, _, _⟩ :: _) _ _); (refine wpl (by kernel_rfl) ?_; apply wp_loadPP hS 25 _ rfl _ _ rfl 17 (row_of rfl) _; (case hp => (repeat (first | with_reducible exact Pull.head | apply Pull.tail))); (case hi => (repeat (first | (apply AtP.head; (repeat (first | exact Pre.nil | (apply Pre.ints; (case hn => (first | (with_reducible assumption) | exact Len.rep | exact Len.set (by with_reducible assumption) | exact Len.set Len.rep | exact Len.set (Len.set Len.rep))); (case h => omega); (case hm => rfl)) | apply Pre.val))) | (apply AtP.skipI; (case hn => (first | (with_reducible assumption) | exact Len.rep | exact Len.set (by with_reducible assumption) | exact Len.set Len.rep | exact Len.set (Len.set Len.rep))); (case h => omega); (case ho => rfl)) | apply AtP.skipV))); refine put_move ?_; go_step))
                    | ((with_reducible show wpList _ _ _ (⟨_, .store 25 _ _, _, _, _, _⟩ :: _) _ _); (refine wpl (by kernel_rfl) ?_; apply wp_storePP hS 25 _ _ rfl _ rfl 17 (row_of rfl) _ _; (case hp => (repeat (first | with_reducible exact Pull.head | apply Pull.tail))); (case hy => rfl); (case hn => (repeat (first | exact Pre.nil | (apply Pre.ints; (case hn => (first | (with_reducible assumption) | exact Len.rep | exact Len.set (by with_reducible assumption) | exact Len.set Len.rep | exact Len.set (Len.set Len.rep))); (case h => omega); (case hm => rfl)) | apply Pre.val))); (case hn' => (repeat (first | exact Pre.nil | (apply Pre.ints; (case hn => (first | (with_reducible assumption) | exact Len.rep | exact Len.set (by with_reducible assumption) | exact Len.set Len.rep | exact Len.set (Len.set Len.rep))); (case h => omega); (case hm => rfl)) | apply Pre.val))); (case hv => rfl); (case hd => exact rfl); clear hS; intro w hS))
                    | ((fail_if_success (with_reducible show wpList _ _ _ (_ :: _) _ _)); go_step))
                  refine ret_all (xs := [_, _]) rfl (.cons (OneRes.prt hS rfl (row_of (n := 17) rfl) (by (repeat (first | with_reducible exact Pull.head | apply Pull.tail))) (by (repeat (first | exact Pre.nil | (apply Pre.ints; (case hn => (first | (with_reducible assumption) | exact Len.rep | exact Len.set (by with_reducible assumption) | exact Len.set Len.rep | exact Len.set (Len.set Len.rep))); (case h => omega); (case hm => rfl)) | apply Pre.val)))) (.cons (OneRes.tmp rfl) (.nil))) (by simp) rfl ?_
                  exact ⟨f, G2.map gpM, C, S, ao, co, HR2.out, HFF.out, hC, HCF.out, HSE.out, by rw [← hls]; rfl, by rw [← hls]; exact hS.sub (by (repeat (first | exact Sub.nil | with_reducible exact Sub.refl | (apply Sub.cons; (case p => (repeat (first | with_reducible exact Pull.head | apply Pull.tail)))) | apply Sub.skip)))⟩
end Go.Proofs.Ytembekkanggciaa
