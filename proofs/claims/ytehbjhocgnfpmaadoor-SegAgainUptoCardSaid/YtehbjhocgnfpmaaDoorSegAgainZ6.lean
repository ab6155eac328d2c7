/- The law SegAgain: what its proof needs, part 6. -/
import Derived.Test.YtehbjhocgnfpmaaDoorSegAgainZ5
import Derived.Test.YtehbjhocgnfpmaaDoorProg
import Derived.ProofKit
import Derived.OpenShut
import Derived.ChangeOld
import Derived.Deep.Slices
import Derived.Test.YtehbjhocgnfpmaaDoorRows
import Derived.JoinedCond
import Derived.Test.YtehbjhocgnfpmaaDoorCards
import Derived.Test.YtehbjhocgnfpmaaDoorTie
import Derived.Deep.DeepHandedRow
import Derived.Lay
import Derived.SevenTiedAt
/- The walk of best.Make. -/
namespace Go.Proofs.YtehbjhocgnfpmaaDoor
set_option maxRecDepth 100000
open Go.RowKit
set_option linter.unusedVariables false
abbrev gpks (g n c : Nat) (G : List GP) : Res := pks g n c (G.map gpV)
theorem gp_perm {Q : List PkV} {G : List GP} (h : Q.Perm (G.map gpV)) : ∃ G' : List GP, G'.Perm G ∧ G'.map gpV = Q := perm_lift gpV h G rfl
theorem gp_srt {G : List GP} (h : (G.map gpV).Pairwise (fun a b => a.w ≤ b.w)) : Srt (G.map gpM) := by
 unfold Srt
 rw [List.pairwise_map] at h ⊢
 exact h
theorem star_row {W w : World} {L : List Sr} {rs rs' : List Res} (h : St W w rs) (p : Pull (star (L.map Sr.res)) rs rs') {x : Sr} (hx : x ∈ L) : Sl w 1 (.slice x.ad x.xs.length x.c) x.xs.length (x.xs.map (Value.int .i64)) := by
 obtain ⟨s, hs⟩ := h.starGet p (List.mem_map.2 ⟨x, hx, rfl⟩)
 exact hs.sl (show Pull (own 3 1 x.ad x.xs.length x.c (x.xs.map (Value.int .i64))) (Sr.res x :: s) s from .head)
theorem bl133_0_1 (m0 : Int) (a1 : Option Addr) (n1 c1 : Nat) (w : World) : (Instr.build 133 #[(0, .int .i64 m0), (1, .slice a1 n1 c1)]).run Tryd.prog w = .ok (.agg #[.int .i64 m0, .slice a1 n1 c1]) w := by kernel_rfl
set_option maxRecDepth 100000 in
set_option maxHeartbeats 16000000 in
theorem make_any (w0 : World) (c : List Int) (ad : Option Addr) (n cap : Nat) (hv : Sl w0 1 (.slice ad n cap) n (c.map (Value.int .i64))) (hn : n ≤ 9223372036854775807) (hok : bE c = 0) :
 Calls Tryd.prog 47 #[.slice ad n cap] w0 fun e w => ∃ (f : Int → Nat) (R : List Pk) (C S : List Int) (ao : Option Addr) (co : Nat), RowK (sgs c n) 16 R ∧ f = lng (R.take (2 * (sgs c n).length - 2)) ∧ Len C 16 ∧ (∀ i, i < 16 → nth C i = ((symsK f n (i + 1)).length : Nat)) ∧ S = symsTo f n 16 ∧ e = .returned (.tuple #[tv C (.slice ao S.length co), .int .i64 0]) ∧ St w0 w [own 3 1 ao S.length co (S.map (Value.int .i64))] := by
 have hS := St.start w0
 have hcl : c.length = n := by have := hv.1; simpa using this
 have HCK := hid (fun (w : World) (hE : Ext w0 w) => bcheck_any w c ad n cap (hv.ext hE) hn)
 rw [hok] at HCK
 have hn2 : n ≤ 256 ∧ allIn c 0 9999 = true := by
  unfold bE at hok
  rw [hcl] at hok
  by_cases h : 256 < n
  · rw [if_pos h] at hok; cases hok
  · rw [if_neg h] at hok
    by_cases h2 : allIn c 0 9999 = true
    · exact ⟨by omega, h2⟩
    · rw [if_neg h2] at hok; cases hok
 obtain ⟨hn3, hall⟩ := hn2
 have hrng := (allIn_iff c 0 9999).1 hall
 rw [hcl] at hrng
 have HRNG := hid hrng
 have HV := hid hv
 clear hrng hall hok
 go_enter Tryd.func47, Tryd.ntmps47
 repeat' (first
  | ((with_reducible apply gt9 _ (.call ⟨.value (.func 45), _, _⟩)); refine wpl_call (f := 45) Tryd.call45 kr9 ?_; refine ⟨_, (HCK.out _ hS.1), ?_⟩; rintro e w ⟨rfl, hE2⟩; replace hS := hS.ext hE2; clear hE2; refine ⟨_, rfl, ?_⟩; refine put_move ?_; go_step) | ((first | (with_reducible apply mv9) | (with_reducible apply as9)); (first | go_big_want | go_step); go_step) | ((with_reducible apply gs9 22); (refine wvv9 (V.neq rfl rfl) ?_; go_step)) | ((with_reducible apply gs9 2); (refine wl9 ?_; apply wp_allocP (o := ⟨some 2, _, _, _, _, _⟩) hS 31 rfl _ zp31; clear hS; intro g2 w hS; refine put_move ?_; go_step)) | ((fail_if_success with_reducible apply ga9); go_step))
 repeat' (first
  | ((with_reducible apply gs9 25); (refine wl9 ?_; apply wp_buildSliceO (o := ⟨some 25, _, _, _, _, _⟩) hS 24 1 _ rfl 3 1 8 el24 _ _; (case hvs => (repeat (first | exact Parts.nil | (apply Parts.agg; (rfl); (rfl)) | (apply Parts.one; exact isv9; (rfl); (rfl))))); (case hn => rfl); (case hn0 => decide); (case hns => decide); clear hS; intro g25 w hS; refine put_move ?_; go_step)) | ((with_reducible apply gs9 27); (refine wl9 ?_; apply wp_buildSliceO (o := ⟨some 27, _, _, _, _, _⟩) hS 134 1 _ rfl 133 2 32 el134 _ _; (case hvs => (repeat (first | exact Parts.nil | (apply Parts.agg; (rfl); (rfl)) | (apply Parts.one; exact isv9; (rfl); (rfl))))); (case hn => rfl); (case hn0 => decide); (case hns => decide); clear hS; intro g27 w hS; simp only [List.cons_append, List.nil_append] at hS; refine put_move ?_; go_step)) | ((first | (with_reducible apply mv9) | (with_reducible apply as9)); (first | go_big_want | go_step); go_step) | ((with_reducible apply gs9 26); (refine wvv9 (V.build (vs := [(0, _), (1, _)]) rfl (bl133_0_1 _ _ _ _)) ?_; go_step)) | ((with_reducible apply gs9 29); (refine wvv9 (V.len Tryd.underlying24 rfl) ?_; go_step)) | ((fail_if_success with_reducible apply ga9); go_step))
 have h2 := ((hS.sub (xs := [own 3 1 (some ⟨g25, 0, none⟩) 1 1 [.int .i64 (-1)], own 133 2 (some ⟨g27, 0, none⟩) 1 1 [.int .i64 0, .slice (some ⟨g25, 0, none⟩) 1 1], prt g2 [.ints (List.replicate 16 0), .val (.slice none 0 0)]]) sb9).star0).starPut .head
 clear hS
 go_loopg [5, 30] n (fun gk sv iv w => ∃ (k N : Nat) (aa : Option Addr) (ca : Nat) (G : List GP) (L : List Sr), gk + k = n ∧ N = G.length ∧ N ≤ k + 1 ∧ 1 ≤ N ∧ iv = .int .i64 k ∧ sv = .slice aa N ca ∧ G.map gpM = sgs c k ∧ (∀ p ∈ G, p.r ∈ L) ∧
  St w0 w [own 133 2 aa N ca ((G.map gpV).flatMap pkE), star (L.map Sr.res), prt g2 [.ints (List.replicate 16 0), .val (.slice none 0 0)]])
 case atStart => exact ⟨0, 1, _, _, [⟨0, ⟨some ⟨g25, 0, none⟩, 1, [-1]⟩⟩], [⟨some ⟨g25, 0, none⟩, 1, [-1]⟩], by omega, rfl, by omega, by omega, rfl, rfl, rfl, by intro p hp; simp at hp; subst hp; simp, by
  have h3 := h2.sub (xs := [own 133 2 (some ⟨g27, 0, none⟩) 1 1 [.int .i64 0, .slice (some ⟨g25, 0, none⟩) 1 1], star ([] ++ [own 3 1 (some ⟨g25, 0, none⟩) 1 1 [.int .i64 (-1)]]), prt g2 [.ints (List.replicate 16 0), .val (.slice none 0 0)]]) sb9
  have e1 : ([⟨0, ⟨some ⟨g25, 0, none⟩, 1, [-1]⟩⟩] : List GP).map gpV = [⟨0, some ⟨g25, 0, none⟩, 1, 1⟩] := rfl
  have e2 : ([⟨0, some ⟨g25, 0, none⟩, 1, 1⟩] : List PkV).flatMap pkE = [.int .i64 0, .slice (some ⟨g25, 0, none⟩) 1 1] := rfl
  have e3 : ([⟨some ⟨g25, 0, none⟩, 1, [-1]⟩] : List Sr).map Sr.res = [own 3 1 (some ⟨g25, 0, none⟩) 1 1 [.int .i64 (-1)]] := rfl
  rw [e1, e2, e3]; exact h3⟩
 case round =>
  clear h2
  obtain ⟨k, N, aa, ca, G, L, hk, hN, hN2, hN3, rfl, rfl, hG, hL, hS⟩ := hrel
  have HG := hid hG
  have HL := hid hL
  clear hG hL
  by_cases hlt : k < n
  · have hs := sgs_succ c k
    have hx := HRNG.out k hlt
    obtain ⟨x, hxx⟩ : ∃ x, nth c k = x := ⟨_, rfl⟩
    have HXX := hid hxx
    rw [hxx] at hs hx
    by_cases hx0 : 0 < x
    · rw [if_pos hx0] at hs
      have HSG := hid hs
      clear hs
      repeat' (first
       | ((first | (with_reducible apply mv9) | (with_reducible apply as9)); (first | go_big_want | go_step); go_step) | ((with_reducible apply gs9 31); (refine wvv9 (V.lss rfl rfl) ?_; go_step)) | ((with_reducible apply gs9 33); (refine wpl_indexI (by with_reducible assumption) Tryd.underlying24 isz3 rfl rfl isn9 (by omega) rfl ?_; intro b33 o33 hc33; go_step)) | ((with_reducible apply gt9 _ (.load 3 _)); (refine wl9 ?_; apply wp_loadW hS 3 _ rfl _ rfl (one_of rfl) _; (case hc => with_reducible assumption); refine put_move ?_; go_step)) | ((fail_if_success with_reducible apply ga9); go_step))
      rw [HXX.out]
      repeat' (first
       | ((with_reducible apply mv9); (first | go_big_want | go_step); go_step) | ((with_reducible apply gs9 36); (refine wvv9 (V.gtr rfl rfl) ?_; go_step)) | ((fail_if_success with_reducible apply ga9); go_step))
      repeat' (first
       | ((with_reducible apply gs9 40); (refine wl9 ?_; apply wp_buildSliceO (o := ⟨some 40, _, _, _, _, _⟩) hS 24 1 _ rfl 3 1 8 el24 _ _; (case hvs => (repeat (first | exact Parts.nil | (apply Parts.agg; (rfl); (rfl)) | (apply Parts.one; exact isv9; (rfl); (rfl))))); (case hn => rfl); (case hn0 => decide); (case hns => decide); clear hS; intro g40 w hS; refine put_move ?_; go_step)) | ((with_reducible apply as9); (first | go_big_want | go_step); go_step) | ((with_reducible apply gs9 41); (refine wvv9 (V.build (vs := [(0, _), (1, _)]) rfl (bl133_0_1 _ _ _ _)) ?_; go_step)) | ((with_reducible apply gs9 42); (refine wl9 ?_; apply wp_buildSlice1 (o := ⟨some 42, _, _, _, _, _⟩) hS 134 1 _ rfl 133 2 32 el134 _ _; (case hvs => (repeat (first | exact Parts.nil | (apply Parts.agg; (rfl); (rfl)) | (apply Parts.one; exact isv9; (rfl); (rfl))))); (case hn => rfl); (case hn0 => decide); (case hns => decide); clear hS; intro g42 w hS; simp only [List.cons_append, List.nil_append] at hS; refine put_move ?_; go_step)) | ((with_reducible apply gs9 43); (refine wl9 ?_; apply wp_append (o := ⟨some 43, _, _, _, _, _⟩) hS _ _ 134 rfl 133 2 32 el134 _ _ _ _ rfl; (case hp => exact pl9); (case hx => exact rfl); (case hm => (first | exact hS.slBlk pl9 (by rfl) (by decide) | exact hS.sl pl9 | with_reducible assumption | exact Sl.ext (by with_reducible assumption) hS.1 | exact Sl.nil _ _ | exact Sl.ext (by assumption) hS.1 | assumption)); (case h1 => (first | exact oneAll rfl | exact oneMap _ _ | (intro u hu; cases hu))); (case h63 => unfold maxLen; omega); (case hb => omega); clear hS; intro ad43 c43 w hS; (first | simp only [mapk1] at hS | simp only [mapk2] at hS | simp only [mapk3] at hS | simp only [mapk4] at hS | simp only [mapkl] at hS | skip); refine put_move ?_; go_step)) | ((fail_if_success with_reducible apply ga9); go_step))
      repeat' (first
       | ((with_reducible apply gs9 44); (refine wplV (.int _ (((k + 1 : Nat) : Int))) (V.as (V.addI rfl rfl (by omega)) (by omega)) rfl ?_; go_step)) | ((with_reducible apply mv9); (first | go_big_want | go_step); go_step) | ((fail_if_success with_reducible apply ga9); go_step))
      have h2 := (hS.sub (xs := [star (L.map Sr.res), own 3 1 (some ⟨g40, 0, none⟩) 1 1 [.int .i64 (k : Nat)], own 133 2 ad43 (N + 1) c43 ((G.map gpV).flatMap pkE ++ [.int .i64 x, .slice (some ⟨g40, 0, none⟩) 1 1]), prt g2 [.ints (List.replicate 16 0), .val (.slice none 0 0)]]) sb9).starPut .head
      go_roundg (gk - 1)
      case measure => omega
      case rel =>
       refine ⟨k + 1, N + 1, ad43, c43, G ++ [⟨x, ⟨some ⟨g40, 0, none⟩, 1, [(k : Int)]⟩⟩], L ++ [⟨some ⟨g40, 0, none⟩, 1, [(k : Int)]⟩], by omega, by simp; omega, by omega, by omega, by go_num, rfl, ?_, ?_, ?_⟩
       · rw [List.map_append, HG.out, HSG.out]; rfl
       · intro p hp
         rcases List.mem_append.1 hp with hp | hp
         · exact List.mem_append_left _ (HL.out p hp)
         · simp at hp; subst hp; simp
       · rw [gp_snoc, List.map_append]
         exact h2.sub (xs := [own 133 2 ad43 (N + 1) c43 ((G.map gpV).flatMap pkE ++ [.int .i64 x, .slice (some ⟨g40, 0, none⟩) 1 1]), star (L.map Sr.res ++ [own 3 1 (some ⟨g40, 0, none⟩) 1 1 [.int .i64 (k : Nat)]]), prt g2 [.ints (List.replicate 16 0), .val (.slice none 0 0)]]) sb9
    · rw [if_neg hx0] at hs
      have HSG := hid hs
      clear hs
      repeat' (first
       | ((first | (with_reducible apply mv9) | (with_reducible apply as9)); (first | go_big_want | go_step); go_step) | ((with_reducible apply gs9 31); (refine wvv9 (V.lss rfl rfl) ?_; go_step)) | ((with_reducible apply gs9 33); (refine wpl_indexI (by with_reducible assumption) Tryd.underlying24 isz3 rfl rfl isn9 (by omega) rfl ?_; intro b33 o33 hc33; go_step)) | ((with_reducible apply gt9 _ (.load 3 _)); (refine wl9 ?_; apply wp_loadW hS 3 _ rfl _ rfl (one_of rfl) _; (case hc => with_reducible assumption); refine put_move ?_; go_step)) | ((fail_if_success with_reducible apply ga9); go_step))
      rw [HXX.out]
      repeat' (first
       | ((with_reducible apply gs9 36); (refine wvv9 (V.gtr rfl rfl) ?_; go_step)) | ((fail_if_success with_reducible apply ga9); go_step))
      repeat' (first
       | ((with_reducible apply gs9 44); (refine wplV (.int _ (((k + 1 : Nat) : Int))) (V.as (V.addI rfl rfl (by omega)) (by omega)) rfl ?_; go_step)) | ((with_reducible apply mv9); (first | go_big_want | go_step); go_step) | ((fail_if_success with_reducible apply ga9); go_step))
      go_roundg (gk - 1)
      case measure => omega
      case rel => exact ⟨k + 1, N, aa, ca, G, L, by omega, hN, by omega, hN3, by go_num, rfl, by rw [HG.out, HSG.out], HL.out, hS⟩
  · obtain rfl : k = n := by omega
    obtain ⟨g5, rfl⟩ := own_some hS .head (by omega)
    have hNl : (sgs c k).length = N := by rw [← HG.out, List.length_map, hN]
    have HNL := hid hNl
    clear hNl
    replace hS : St w0 wr [gpks g5 N ca G, star (L.map Sr.res), prt g2 [.ints (List.replicate 16 0), .val (.slice none 0 0)]] := hS
    repeat' (first
     | ((with_reducible apply mv9); (first | go_big_want | go_step); go_step) | ((with_reducible apply gs9 31); (refine wvv9 (V.lss rfl rfl) ?_; go_step)) | ((fail_if_success with_reducible apply ga9); go_step))
    repeat' (first
     | ((with_reducible apply gt9 _ (.call ⟨.value (.func 66), _, _⟩)); refine wpl_call (f := 66) Tryd.call66 kr9 ?_; refine ⟨_, (sortStable_any w0 _ _ _ g5 N ca (G.map gpV) hS .head (by omega)), ?_⟩; rintro e w ⟨rfl, Q0, hQ1, hQ2, hS2⟩; replace hS := hS2; clear hS2; refine ⟨_, rfl, ?_⟩; refine put_move ?_; go_step) | ((with_reducible apply mv9); (first | go_big_want | go_step); go_step) | ((fail_if_success with_reducible apply ga9); go_step))
    obtain ⟨G1, hG1, rfl⟩ := gp_perm hQ1
    have hR1 : RowK (sgs c k) 1 (G1.map gpM) := .one _ (HG.out ▸ hG1.map gpM) (gp_srt hQ2)
    have hL1 : ∀ p ∈ G1, p.r ∈ L := fun p hp => HL.out p (hG1.mem_iff.1 hp)
    have hN1 : N = G1.length := by rw [hG1.length_eq]; exact hN
    have HP1 : Hid ((G1.map gpM).Perm (sgs c k)) := HG.out ▸ hG1.map gpM
    have HR1 := hid hR1
    have HL1 := hid hL1
    clear hQ1 hQ2 hR1 hL1 hG1 HL HG hN
    repeat' (first
     | ((with_reducible apply gt9 _ (.call ⟨.value (.func 68), _, _⟩)); refine wpl_call (f := 68) Tryd.call68 kr9 ?_; refine ⟨_, (clone_any w0 _ _ _ g5 N ca (G1.map gpV) hS .head (by omega) (by omega)), ?_⟩; rintro e w ⟨g8, c8, rfl, hS2⟩; replace hS := hS2; clear hS2; refine ⟨_, rfl, ?_⟩; refine put_move ?_; go_step) | ((first | (with_reducible apply mv9) | (with_reducible apply as9)); (first | go_big_want | go_step); go_step) | ((fail_if_success with_reducible apply ga9); go_step))
    repeat' (first
     | ((fail_if_success with_reducible apply ga9); go_step))
    go_loopg [8, 49] 15 (fun gk rv iv w => ∃ (j M a8 c8 : Nat) (G2 : List GP) (L : List Sr), gk + j = 15 ∧ M = G2.length ∧ iv = .int .i64 j ∧ rv = .slice (some ⟨a8, 0, none⟩) M c8 ∧ RowK (sgs c k) (j + 1) (G2.map gpM) ∧ (∀ p ∈ G2, p.r ∈ L) ∧ (∀ p ∈ G1, p.r ∈ L) ∧
     St w0 w [gpks a8 M c8 G2, gpks g5 N ca G1, star (L.map Sr.res), prt g2 [.ints (List.replicate 16 0), .val (.slice none 0 0)]])
    case atStart => exact ⟨0, N, g8, c8, G1, L, by omega, hN1, rfl, rfl, HR1.out, HL1.out, HL1.out, hS⟩
    case round =>
     clear hS HL1 HR1
     obtain ⟨j, M, a8, c8, G2, L, hj, hM, rfl, rfl, hR2, hL2, hL1, hS⟩ := hrel
     have hM2 := hR2.len
     rw [HNL.out, List.length_map, ← hM] at hM2
     have HR2 := hid hR2
     have HL1 := hid hL1
     by_cases hlt : j < 15
     · obtain ⟨gk1, hgk1⟩ : ∃ x, x = gk := ⟨_, rfl⟩
       subst hgk1
       have hbd := row_bd HRNG.out hn3 (show j + 1 ≤ 16 by omega) hR2
       have HBD := hid hbd
       have HL2 := hid hL2
       clear hR2 hL1 hL2 hbd
       repeat' (first
        | ((with_reducible apply as9); (first | go_big_want | go_step); go_step) | ((with_reducible apply gs9 50); (refine wvv9 (V.lss rfl rfl) ?_; go_step)) | ((fail_if_success with_reducible apply ga9); go_step))
       go_loopg [9, 10] M (fun gk sv iv w => ∃ (q : Nat) (aa : Option Addr) (ca' : Nat) (GN : List GP) (L : List Sr), gk + q = M ∧ 2 * q ≤ M ∧ q = GN.length ∧ iv = .int .i64 (2 * q : Nat) ∧ sv = .slice aa q ca' ∧ GN.map gpM = (pkgs (G2.map gpM)).take q ∧ (∀ p ∈ GN, p.r ∈ L) ∧ (∀ p ∈ G2, p.r ∈ L) ∧ (∀ p ∈ G1, p.r ∈ L) ∧
        St w0 w [own 133 2 aa q ca' ((GN.map gpV).flatMap pkE), gpks a8 M c8 G2, gpks g5 N ca G1, star (L.map Sr.res), prt g2 [.ints (List.replicate 16 0), .val (.slice none 0 0)]])
       case atStart => exact ⟨0, none, 0, [], L, by omega, by omega, rfl, rfl, rfl, by simp, (fun p hp => by cases hp), HL2.out, HL1.out, hS.nil 133 2⟩
       case round =>
        clear hS HL1 HL2
        obtain ⟨q, aa, ca', GN, L, hq, hqM, hqn, rfl, rfl, hGN, hLN, hL2, hL1, hS⟩ := hrel
        have HGN := hid hGN
        have HLN := hid hLN
        have HL2 := hid hL2
        have HL1 := hid hL1
        clear hGN hLN hL2 hL1
        by_cases hlt2 : 2 * q + 1 < M
        · obtain ⟨p1, hp1, e1, m1⟩ := gp_at G2 (2 * q) (by omega)
          obtain ⟨p2, hp2, e2, m2⟩ := gp_at G2 (2 * q + 1) (by omega)
          have hpk := pkgs_take (G2.map gpM) q (by rw [List.length_map]; omega)
          rw [m1, m2] at hpk
          have b1 := HBD.out (gpM p1) (List.mem_map.2 ⟨p1, hp1, rfl⟩)
          have b2 := HBD.out (gpM p2) (List.mem_map.2 ⟨p2, hp2, rfl⟩)
          have hw1 : 0 ≤ (elt (G2.map gpV) (2 * q)).w ∧ (elt (G2.map gpV) (2 * q)).w ≤ 50000000 := by rw [e1]; exact ⟨b1.1, b1.2.1⟩
          have hw2 : 0 ≤ (elt (G2.map gpV) (2 * q + 1)).w ∧ (elt (G2.map gpV) (2 * q + 1)).w ≤ 50000000 := by rw [e2]; exact ⟨b2.1, b2.2.1⟩
          have hl12 : (([p1.r, p2.r] : List Sr).flatMap (·.xs)).length ≤ 1000000 := by
           have c1 : p1.r.xs.length ≤ 5000 := b1.2.2
           have c2 : p2.r.xs.length ≤ 5000 := b2.2.2
           simp; omega
          have r1 := HL2.out p1 hp1
          have r2 := HL2.out p2 hp2
          have HPK := hid hpk
          have E1 := hid e1
          have E2 := hid e2
          have H12 := hid hl12
          have R1 := hid r1
          have R2 := hid r2
          have he := pkE_len
          have hCC : Hid (∀ (w : World) (g82 : Nat) (rs rs' : List Res), St w0 w rs → Pull (star (L.map Sr.res)) rs rs' → Sl w 1 (.slice (some ⟨g82, 0, none⟩) 2 2) 2 [.slice (elt (G2.map gpV) (2 * q)).ad (elt (G2.map gpV) (2 * q)).n (elt (G2.map gpV) (2 * q)).c, .slice (elt (G2.map gpV) (2 * q + 1)).ad (elt (G2.map gpV) (2 * q + 1)).n (elt (G2.map gpV) (2 * q + 1)).c] →
           Calls Tryd.prog 69 #[.slice (some ⟨g82, 0, none⟩) 2 2] w fun e w' => ∃ (ad : Option Addr) (c : Nat), e = .returned (.slice ad (p1.r.xs ++ p2.r.xs).length c) ∧ St w w' [own 3 1 ad (p1.r.xs ++ p2.r.xs).length c ((p1.r.xs ++ p2.r.xs).map (Value.int .i64))]) := fun w g82 rs rs' h p hsl => by
           rw [e1, e2] at hsl
           have hc := concat_any w g82 2 2 [p1.r, p2.r] hsl (fun r hr => by
            simp only [List.mem_cons, List.mem_nil_iff, or_false] at hr
            rcases hr with rfl | rfl
            · exact star_row h p r1
            · exact star_row h p r2) (by omega) hl12
           simpa using hc
          clear hp1 hp2 e1 e2 m1 m2 hpk b1 b2 hl12 r1 r2
          repeat' (first
           | ((with_reducible apply gs9 52); (refine wplV (.int _ (((2 * q + 1 : Nat) : Int))) (V.as (V.addI rfl rfl (by omega)) (by omega)) rfl ?_; go_step)) | ((with_reducible apply mv9); (first | go_big_want | go_step); go_step) | ((with_reducible apply gs9 54); (refine wvv9 (V.len Tryd.underlying134 rfl) ?_; go_step)) | ((with_reducible apply gs9 55); (refine wvv9 (V.lss rfl rfl) ?_; go_step)) | ((fail_if_success with_reducible apply ga9); go_step))
          refine drawn_lit [27, 28] (fun w => St w0 w [gpks a8 M c8 G2]) kr9 ?_
          replace hS := hS.drew
          focus
           refine takeM 0 _ al9 kr9 kr9 kr9 hq9 rfl ?_
           go_step
           refine takeM 1 _ al9 kr9 kr9 kr9 hq9 rfl ?_
           go_step
           refine takeM 2 _ al9 kr9 kr9 kr9 hq9 rfl ?_
           go_step
           (refine takeV 3 _ al9 kr9 kr9 kr9 hq9 (V.indexSl Tryd.underlying134 isz133 rfl rfl isn9 (by omega) rfl nq9) rfl ?_)
           go_step
           (refine takeV 4 _ al9 kr9 kr9 kr9 hq9 (V.fieldAddr fo133_0 rfl nq9) rfl ?_)
           go_step
           apply takeS 5 al9 kr9 kr9 kr9 hq9 [12, 26, 27, 28, 29] kr9 (hS.sub sb9)
           case hfr => intro w hS; ((refine wl9 ?_; apply wp_load1E0 hS 3 _ rfl _ _ rfl (one_of rfl) _ _ _ _ _ _; (case hp => exact pl9); (case inst => infer_instance); (case he => with_reducible assumption); (case hq => exact rfl); (case hj => omega); (case hv => exact rfl); refine put_move ?_; go_step)); refine wpList_nil ?_; exact ⟨rfl, rfl⟩
           case hd => rfl
           refine takeM 6 _ al9 kr9 kr9 kr9 hq9 rfl ?_
           go_step
           refine takeM 7 _ al9 kr9 kr9 kr9 hq9 rfl ?_
           go_step
           (refine takeV 8 (.int _ (((2 * q + 1 : Nat) : Int))) al9 kr9 kr9 kr9 hq9 (V.as (V.addI rfl rfl (by omega)) (by omega)) rfl ?_)
           go_step
           (refine takeV 9 _ al9 kr9 kr9 kr9 hq9 (V.indexSl Tryd.underlying134 isz133 rfl rfl isn9 (by omega) rfl nq9) rfl ?_)
           go_step
           (refine takeV 10 _ al9 kr9 kr9 kr9 hq9 (V.fieldAddr fo133_0 rfl nq9) rfl ?_)
           go_step
           apply takeS 11 al9 kr9 kr9 kr9 hq9 [12, 26, 27, 28, 29] kr9 (hS.sub sb9)
           case hfr => intro w hS; ((refine wl9 ?_; apply wp_load1E0 hS 3 _ rfl _ _ rfl (one_of rfl) _ _ _ _ _ _; (case hp => exact pl9); (case inst => infer_instance); (case he => with_reducible assumption); (case hq => exact rfl); (case hj => omega); (case hv => exact rfl); refine put_move ?_; go_step)); refine wpList_nil ?_; exact ⟨rfl, rfl⟩
           case hd => rfl
           (refine takeV 12 _ al9 kr9 kr9 kr9 hq9 (V.addI rfl rfl (by omega)) rfl ?_)
           go_step
           refine takeM 13 _ al9 kr9 kr9 kr9 hq9 rfl ?_
           go_step
           refine takeM 14 _ al9 kr9 kr9 kr9 hq9 rfl ?_
           go_step
           (refine takeV 15 _ al9 kr9 kr9 kr9 hq9 (V.indexSl Tryd.underlying134 isz133 rfl rfl isn9 (by omega) rfl nq9) rfl ?_)
           go_step
           (refine takeV 16 _ al9 kr9 kr9 kr9 hq9 (V.fieldAddr fo133_1 rfl nq9) rfl ?_)
           go_step
           apply takeS 17 al9 kr9 kr9 kr9 hq9 [24, 25, 26, 27, 28, 29] kr9 (hS.sub sb9)
           case hfr => intro w hS; ((refine wl9 ?_; apply wp_load1E hS 24 _ rfl _ _ rfl (one_of rfl) _ _ _ _ _ _; (case hp => exact pl9); (case inst => infer_instance); (case he => with_reducible assumption); (case hq => exact rfl); (case hj => omega); (case hv => exact rfl); refine put_move ?_; go_step)); refine wpList_nil ?_; exact ⟨rfl, rfl⟩
           case hd => rfl
           refine takeM 18 _ al9 kr9 kr9 kr9 hq9 rfl ?_
           go_step
           refine takeM 19 _ al9 kr9 kr9 kr9 hq9 rfl ?_
           go_step
           (refine takeV 20 _ al9 kr9 kr9 kr9 hq9 (V.addI rfl rfl (by omega)) rfl ?_)
           go_step
           (refine takeV 21 _ al9 kr9 kr9 kr9 hq9 (V.indexSl Tryd.underlying134 isz133 rfl rfl isn9 (by omega) rfl nq9) rfl ?_)
           go_step
           (refine takeV 22 _ al9 kr9 kr9 kr9 hq9 (V.fieldAddr fo133_1 rfl nq9) rfl ?_)
           go_step
           apply takeS 23 al9 kr9 kr9 kr9 hq9 [24, 25, 26, 27, 28, 29] kr9 (hS.sub sb9)
           case hfr => intro w hS; ((refine wl9 ?_; apply wp_load1E hS 24 _ rfl _ _ rfl (one_of rfl) _ _ _ _ _ _; (case hp => exact pl9); (case inst => infer_instance); (case he => with_reducible assumption); (case hq => exact rfl); (case hj => omega); (case hv => exact rfl); refine put_move ?_; go_step)); refine wpList_nil ?_; exact ⟨rfl, rfl⟩
           case hd => rfl
           refine branch1 24 al9 rfl kr9 ?_
           (refine wp_buildSlice1 (o := ⟨some 82, _, _, _, _, _⟩) hS 160 2 _ rfl 24 1 24 el160 _ _ (by (repeat (first | exact Parts.nil | (apply Parts.agg; (rfl); (rfl)) | (apply Parts.one; exact isv9; (rfl); (rfl))))) (by rfl) (by decide) (by decide) ?_; clear hS; intro g82 w hS)
           refine ⟨fun _ _ => hS.sub sb9, ?_⟩
           refine drawn_move ?_
           go_step
           refine branch1 25 al9 rfl kr9 ?_
           refine wp_callF (f := 69) rfl Tryd.call69 (hCC.out _ _ _ _ hS pl9 (hS.slBlk (n := 2) pl9 (by rfl) (by decide))) ?_; rintro e w ⟨ad83, c83, rfl, hS2⟩; replace hS := hS.call1 hS2; clear hS2; refine ⟨_, rfl, ?_⟩
           refine ⟨fun _ _ => hS.sub sb9, ?_⟩
           refine drawn_move ?_
           go_step
           (refine takeV 26 _ al9 kr9 kr9 kr9 hq9 (V.build (vs := [(0, _), (1, _)]) rfl (bl133_0_1 _ _ _ _)) rfl ?_)
           go_step
           refine branch1 27 al9 rfl kr9 ?_
           (refine wp_buildSlice1 (o := ⟨some 85, _, _, _, _, _⟩) hS 134 1 _ rfl 133 2 32 el134 _ _ (by (repeat (first | exact Parts.nil | (apply Parts.agg; (rfl); (rfl)) | (apply Parts.one; exact isv9; (rfl); (rfl))))) (by rfl) (by decide) (by decide) ?_; clear hS; intro g85 w hS; simp only [List.cons_append, List.nil_append] at hS)
           refine ⟨fun h => absurd (by decide) h, ?_⟩
           refine drawn_move ?_
           go_step
           refine branch1 28 al9 rfl kr9 ?_
           (refine wp_append (o := ⟨some 86, _, _, _, _, _⟩) hS _ _ 134 rfl 133 2 32 el134 _ _ _ _ rfl pl9 _ rfl _ _ (by (first | exact hS.slBlk pl9 (by rfl) (by decide) | exact hS.sl pl9 | with_reducible assumption | exact Sl.ext (by with_reducible assumption) hS.1 | exact Sl.nil _ _ | exact Sl.ext (by assumption) hS.1 | assumption)) (by (first | exact oneAll rfl | exact oneMap _ _ | (intro u hu; cases hu))) (by unfold maxLen; omega) (by omega) ?_; clear hS; intro ad86 c86 w hS; (first | simp only [mapk1] at hS | simp only [mapk2] at hS | simp only [mapk3] at hS | simp only [mapk4] at hS | simp only [mapkl] at hS | skip))
           refine ⟨fun h => absurd (by decide) h, ?_⟩
           refine drawn_move ?_
           go_step
           refine takeA 29 _ al9 kr9 kr9 kr9 hq9 rfl ?_
           go_step
           refine drawn_done kr9 ?_ _
          repeat' (first
           | ((with_reducible apply gs9 57); (refine wplV (.int _ (((2 * (q + 1) : Nat) : Int))) (V.as (V.addI rfl rfl (by omega)) (by omega)) rfl ?_; go_step)) | ((first | (with_reducible apply mv9) | (with_reducible apply as9)); (first | go_big_want | go_step); go_step) | ((fail_if_success with_reducible apply ga9); go_step))
          obtain ⟨w12, hw12⟩ : ∃ w12, (elt (G2.map gpV) (2 * q)).w + (elt (G2.map gpV) (2 * q + 1)).w = w12 := ⟨_, rfl⟩
          rw [hw12] at hS
          have h2 := (hS.sub (xs := [star (L.map Sr.res), own 3 1 ad83 (p1.r.xs ++ p2.r.xs).length c83 ((p1.r.xs ++ p2.r.xs).map (Value.int .i64)), own 133 2 ad86 (q + 1) c86 ((GN.map gpV).flatMap pkE ++ [.int .i64 w12, .slice ad83 (p1.r.xs ++ p2.r.xs).length c83]), gpks a8 M c8 G2, gpks g5 N ca G1, prt g2 [.ints (List.replicate 16 0), .val (.slice none 0 0)]]) sb9).starPut .head
          go_roundg (gk - 1)
          case measure => omega
          case rel =>
           refine ⟨q + 1, ad86, c86, GN ++ [⟨w12, ⟨ad83, c83, p1.r.xs ++ p2.r.xs⟩⟩], L ++ [⟨ad83, c83, p1.r.xs ++ p2.r.xs⟩], by omega, by omega, by simp; omega, by go_num, rfl, ?_, ?_, fun p hp => List.mem_append_left _ (HL2.out p hp), fun p hp => List.mem_append_left _ (HL1.out p hp), ?_⟩
           · rw [List.map_append, HGN.out, HPK.out, ← hw12, E1.out, E2.out]; rfl
           · intro p hp
             rcases List.mem_append.1 hp with hp | hp
             · exact List.mem_append_left _ (HLN.out p hp)
             · simp at hp; subst hp; simp
           · rw [gp_snoc, List.map_append]
             exact h2.sub (xs := [own 133 2 ad86 (q + 1) c86 ((GN.map gpV).flatMap pkE ++ [.int .i64 w12, .slice ad83 (p1.r.xs ++ p2.r.xs).length c83]), gpks a8 M c8 G2, gpks g5 N ca G1, star (L.map Sr.res ++ [own 3 1 ad83 (p1.r.xs ++ p2.r.xs).length c83 ((p1.r.xs ++ p2.r.xs).map (Value.int .i64))]), prt g2 [.ints (List.replicate 16 0), .val (.slice none 0 0)]]) sb9
        · have hGN2 : GN.map gpM = pkgs (G2.map gpM) := by rw [HGN.out, List.take_of_length_le (by rw [pairs_len, List.length_map]; omega)]
          have HGN2 := hid hGN2
          clear hGN2 HGN
          have he := pkE_all (G1.map gpV)
          repeat' (first
           | ((with_reducible apply gs9 52); (refine wplV (.int _ (((2 * q + 1 : Nat) : Int))) (V.as (V.addI rfl rfl (by omega)) (by omega)) rfl ?_; go_step)) | ((with_reducible apply mv9); (first | go_big_want | go_step); go_step) | ((with_reducible apply gs9 54); (refine wvv9 (V.len Tryd.underlying134 rfl) ?_; go_step)) | ((with_reducible apply gs9 55); (refine wvv9 (V.lss rfl rfl) ?_; go_step)) | ((fail_if_success with_reducible apply ga9); go_step))
          repeat' (first
           | ((with_reducible apply gs9 89); refine wl9 ?_; refine wp_append (o := ⟨some 89, _, _, _, _, _⟩) hS _ _ 134 rfl 133 2 32 el134 _ _ _ _ rfl pl9 _ rfl N _ (hS.sl (show Pull (gpks g5 N ca G1) _ _ from pl9)) he (by unfold maxLen; omega) (by omega) ?_; clear hS; intro ad89 c89 w hS; refine put_move ?_; go_step) | ((first | (with_reducible apply mv9) | (with_reducible apply as9)); (first | go_big_want | go_step); go_step) | ((fail_if_success with_reducible apply ga9); go_step))
          rw [← gp_app] at hS
          obtain ⟨g89, rfl⟩ := own_some hS .head (by omega)
          repeat' (first
           | ((with_reducible apply gt9 _ (.call ⟨.value (.func 66), _, _⟩)); refine wpl_call (f := 66) Tryd.call66 kr9 ?_; refine ⟨_, (sortStable_any w0 _ _ _ g89 (q + N) c89 ((GN ++ G1).map gpV) hS .head (by omega)), ?_⟩; rintro e w ⟨rfl, Q0, hQ1, hQ2, hS2⟩; replace hS := hS2; clear hS2; refine ⟨_, rfl, ?_⟩; refine put_move ?_; go_step) | ((fail_if_success with_reducible apply ga9); go_step))
          obtain ⟨G3, hG3, rfl⟩ := gp_perm hQ1
          have hR3 : RowK (sgs c k) (j + 2) (G3.map gpM) := by
           refine RowK.more HR2.out ?_ (gp_srt hQ2)
           have := hG3.map gpM
           rw [List.map_append, HGN2.out] at this
           exact this.trans (List.Perm.append_left _ HP1.out)
          have hL3 : ∀ p ∈ G3, p.r ∈ L := fun p hp => (List.mem_append.1 (hG3.mem_iff.1 hp)).elim (HLN.out p) (HL1.out p)
          have hN3' : q + N = G3.length := by rw [hG3.length_eq, List.length_append, ← hqn, ← hN1]
          have HR3 := hid hR3
          have HL3 := hid hL3
          clear hQ1 hQ2 hR3 hL3 hG3
          repeat' (first
           | ((with_reducible apply gs9 92); (refine wplV (.int _ (((j + 1 : Nat) : Int))) (V.as (V.addI rfl rfl (by omega)) (by omega)) rfl ?_; go_step)) | ((with_reducible apply mv9); (first | go_big_want | go_step); go_step) | ((fail_if_success with_reducible apply ga9); go_step))
          go_roundg (gk1 - 1)
          case measure => omega
          case rel => exact ⟨j + 1, q + N, g89, c89, G3, L, by omega, hN3', by go_num, rfl, HR3.out, HL3.out, HL1.out, hS.sub sb9⟩
     · obtain rfl : j = 15 := by omega
       have HL2 := hid hL2
       clear hR2 hL2 hL1 HL1
       obtain ⟨Tn, hTn⟩ : ∃ Tn, 2 * N - 2 = Tn := ⟨_, rfl⟩
       have hMc : M ≤ c8 := by
        have := hS.sl (show Pull (gpks a8 M c8 G2) _ _ from .head)
        obtain ⟨_, _, _, e, h1, _⟩ := this
        cases e; exact h1
       have hlong := HR2.out.long (by rw [HNL.out]; omega)
       rw [HNL.out, List.length_map, ← hM] at hlong
       have hd0 : N / 2 ^ (15 + 1 - 1) = 0 := Nat.div_eq_of_lt (by omega)
       rw [hd0] at hlong
       have hTM : Tn ≤ M := by omega
       clear hd0 hlong
       obtain ⟨f, hf⟩ : ∃ f : Int → Nat, f = lng ((G2.map gpM).take Tn) := ⟨_, rfl⟩
       replace hS := hS.sub (xs := [gpks a8 M c8 G2, gpks g5 N ca G1, star (L.map Sr.res), prt g2 [.ints (List.replicate 16 0), .val (.slice none 0 0)]]) sb9
       repeat' (first
        | ((with_reducible apply gs9 50); (refine wvv9 (V.lss rfl rfl) ?_; go_step)) | ((fail_if_success with_reducible apply ga9); go_step))
       repeat' (first
        | ((with_reducible apply gs9 97); (refine wplV (.int _ (((2 * N : Nat) : Int))) (V.as (V.mulI rfl rfl (by omega)) (by omega)) rfl ?_; go_step)) | ((with_reducible apply gs9 98); (refine wplV (.int _ (((Tn : Nat) : Int))) (V.as (V.subI rfl rfl (by omega)) (by omega)) rfl ?_; go_step)) | ((first | (with_reducible apply mv9) | (with_reducible apply as9)); (first | go_big_want | go_step); go_step) | ((with_reducible apply gs9 96); (refine wvv9 (V.len Tryd.underlying134 rfl) ?_; go_step)) | ((with_reducible apply gs9 99); (refine wvv9 (V.slice Tryd.underlying134 isz133 rfl (by (first | exact Lo.none | exact Lo.some rfl isn9)) (by (first | exact Up.none | exact Up.some rfl isn9)) (by omega) (by omega)) ?_; go_step)) | ((with_reducible apply gs9 100); (refine wvv9 (V.len Tryd.underlying134 rfl) ?_; go_step)) | ((with_reducible apply gs9 93); (refine wl9 ?_; apply wp_makeMap (o := ⟨some 93, _, _, _, _, _⟩) ik hS 89 rfl; clear hS; intro g93 w hS; refine put_move ?_; go_step)) | ((fail_if_success with_reducible apply ga9); go_step))
       replace hS := hS.sub (xs := [mp ik g93 (fun _ => none), gpks a8 M c8 G2, star (L.map Sr.res), prt g2 [.ints (List.replicate 16 0), .val (.slice none 0 0)]]) sb9
       rw [cutAt_zero, Nat.sub_zero, Nat.sub_zero]
       rw [← cntF_nil] at hS
       go_loopg [101] Tn (fun gk iv w => ∃ (a : Nat), gk + a = Tn ∧ iv = .int .i64 a ∧ St w0 w [mp ik g93 (cntF (syl ((G2.map gpM).take a))), gpks a8 M c8 G2, star (L.map Sr.res), prt g2 [.ints (List.replicate 16 0), .val (.slice none 0 0)]])
       case atStart => exact ⟨0, by omega, rfl, hS⟩
       case round =>
        clear hS
        obtain ⟨a, ha, rfl, hS⟩ := hrel
        by_cases hlt3 : a < Tn
        · obtain ⟨gk2, hgk2⟩ : ∃ x, x = gk := ⟨_, rfl⟩
          subst hgk2
          obtain ⟨⟨pw, pa, pcp, px⟩, hp, e1, m1⟩ := gp_at G2 a (by omega)
          have hpr : (⟨pa, pcp, px⟩ : Sr) ∈ L := HL2.out _ hp
          have e1' : elt (G2.map gpV) a = ⟨pw, pa, px.length, pcp⟩ := e1
          have htk : syl ((G2.map gpM).take (a + 1)) = syl ((G2.map gpM).take a) ++ px := by
           have hlt4 : a < (G2.map gpM).length := by rw [List.length_map]; omega
           rw [List.take_succ_eq_append_getElem hlt4, syl_append, syl_cons]
           have : (G2.map gpM)[a] = gpM ⟨pw, ⟨pa, pcp, px⟩⟩ := by rw [← m1]; exact elt_get _ _ hlt4
           rw [this]; simp [gpM, syl]
          have hpl : px.length ≤ 5000 := (row_bd HRNG.out hn3 (by omega) HR2.out (gpM ⟨pw, ⟨pa, pcp, px⟩⟩) (List.mem_map.2 ⟨_, hp, rfl⟩)).2.2
          have HTK := hid htk
          have HPR := hid hpr
          have E1 := hid e1'
          obtain ⟨Y, hY⟩ : ∃ Y, syl ((G2.map gpM).take a) = Y := ⟨_, rfl⟩
          rw [hY] at hS HTK
          have HY := hid hY
          clear htk hpr e1' e1 m1 hp hY
          have he := pkE_len
          repeat' (first
           | ((with_reducible apply gs9 102); (refine wvv9 (V.lss rfl rfl) ?_; go_step)) | ((with_reducible apply gs9 103); (refine wvv9 (V.indexSl Tryd.underlying134 isz133 rfl rfl isn9 (by omega) rfl nq9) ?_; go_step)) | ((with_reducible apply gt9 _ (.load 133 _)); (refine wl9 ?_; apply wp_loadE hS 133 _ rfl _ _ rfl 2 (row_of rfl) _ _ _ _ _; (case hp => exact pl9); (case inst => infer_instance); (case he => with_reducible assumption); (case hq => exact rfl); (case hj => omega); refine put_move ?_; go_step)) | ((with_reducible apply gs9 13); (refine wl9 ?_; apply wp_alloc (o := ⟨some 13, _, _, _, _, _⟩) hS 133 rfl (.agg #[.int .i64 0, .slice none 0 0]) [.int .i64 0, .slice none 0 0] (fun w => Tryd.zeroValue133 w) rfl; clear hS; intro g13 w hS; refine put_move ?_; go_step)) | ((with_reducible apply gt9 _ (.store 133 _ _)); (refine wl9 ?_; apply wp_storeG hS 133 _ _ rfl _ rfl 2 (row_of rfl) _ _; (case hp => exact pl9); (case hy => rfl); (case hn => rfl); (case hn' => rfl); (case hv => rfl); (case hd => exact rfl); clear hS; intro w hS)) | ((fail_if_success with_reducible apply ga9); go_step))
          rw [E1.out] at hS
          have hYl : Y.length ≤ 5000 := by
           have h1 := HR2.out.syll
           rw [sgs_syl, HNL.out] at h1
           have h2 : syl (G2.map gpM) = syl ((G2.map gpM).take a) ++ syl ((G2.map gpM).drop a) := by rw [← syl_append, List.take_append_drop]
           rw [h2, List.length_append, HY.out] at h1
           omega
          repeat' (first
           | ((with_reducible apply mv9); (first | go_big_want | go_step); go_step) | ((with_reducible apply gs9 105); (refine wvv9 (V.fieldAddr fo133_1 rfl nq9) ?_; go_step)) | ((with_reducible apply gs9 107); (refine wvv9 (V.len Tryd.underlying24 rfl) ?_; go_step)) | ((with_reducible apply gt9 _ (.load 24 _)); (refine wl9 ?_; apply wp_load1 hS 24 _ rfl _ _ rfl (one_of rfl) _; (case hp => exact pl9); (case hc => rfl); refine put_move ?_; go_step)) | ((fail_if_success with_reducible apply ga9); go_step))
          replace hS := hS.sub (xs := [mp ik g93 (cntF Y), gpks a8 M c8 G2, star (L.map Sr.res), prt g2 [.ints (List.replicate 16 0), .val (.slice none 0 0)]]) sb9
          go_loopg [108] px.length (fun gk iv w => ∃ (b : Nat), gk + b = px.length ∧ iv = .int .i64 b ∧ St w0 w [mp ik g93 (cntF (Y ++ px.take b)), gpks a8 M c8 G2, star (L.map Sr.res), prt g2 [.ints (List.replicate 16 0), .val (.slice none 0 0)]])
          case atStart => exact ⟨0, by omega, rfl, by rw [List.take_zero, List.append_nil]; exact hS⟩
          case round =>
           clear hS
           obtain ⟨b, hb, rfl, hS⟩ := hrel
           by_cases hlt4 : b < px.length
           · have hrow : Sl wr 1 (.slice pa px.length pcp) px.length (px.map (Value.int .i64)) := star_row hS (show Pull (star (L.map Sr.res)) _ _ from pl9) HPR.out
             obtain ⟨_, a1, c1, e1, _, _, hor⟩ := hrow
             cases e1
             rcases hor with h0 | ⟨b0, o0, rfl, hc⟩
             · omega
             have hcw := hc b (by omega)
             rw [List.getElem?_map, get_nth px b hlt4] at hcw
             replace hcw : wr.cell? ⟨b0, o0 + b, none⟩ = some (.int .i64 (nth px b)) := hcw
             have htk2 : Y ++ px.take (b + 1) = (Y ++ px.take b) ++ [nth px b] := by
              rw [List.take_succ_eq_append_getElem hlt4, List.append_assoc]
              simp [nth, List.getD, hlt4]
             have hZl : (Y ++ px.take b).length ≤ 10000 := by rw [List.length_append, List.length_take]; omega
             obtain ⟨s, hs⟩ : ∃ s, nth px b = s := ⟨_, rfl⟩
             obtain ⟨Z, hZ⟩ : ∃ Z, Y ++ px.take b = Z := ⟨_, rfl⟩
             rw [hs] at hcw htk2
             rw [hZ] at htk2 hZl hS
             have hcl2 := List.count_le_length (a := s) (l := Z)
             obtain ⟨m, hm⟩ : ∃ m, Z.count s = m := ⟨_, rfl⟩
             have HTK2 := hid htk2
             have HSN := hid (cntF_snoc Z s)
             rw [hm] at hcl2 HSN
             have hfe : cntF Z s = if m = 0 then none else some (.int .i64 (m : Nat)) := by rw [← hm]; rfl
             clear hs hZ htk2 hc hm
             repeat' (first
              | ((with_reducible apply gs9 111); refine wl9 ?_; refine wp_load (o := ⟨some 111, _, _, _, _, _⟩) 3 _ rfl _ rfl (one_of rfl) _ hcw ?_; refine put_move ?_; go_step) | ((first | (with_reducible apply mv9) | (with_reducible apply as9)); (first | go_big_want | go_step); go_step) | ((with_reducible apply gs9 109); (refine wvv9 (V.lss rfl rfl) ?_; go_step)) | ((with_reducible apply gs9 110); (refine wvv9 (V.indexSl Tryd.underlying24 isz3 rfl rfl isn9 (by omega) (Nat.mul_one _) nq9) ?_; go_step)) | ((fail_if_success with_reducible apply ga9); go_step))
             by_cases hm0 : m = 0
             · rw [if_pos hm0] at hfe
               repeat' (first
                | ((with_reducible apply gs9 115); (refine wplV (.int _ (((m + 1 : Nat) : Int))) (V.as (V.addI rfl rfl (by omega)) (by omega)) rfl ?_; go_step)) | ((with_reducible apply gs9 116); (refine wplV (.int _ (((b + 1 : Nat) : Int))) (V.as (V.addI rfl rfl (by omega)) (by omega)) rfl ?_; go_step)) | ((with_reducible apply mv9); (first | go_big_want | go_step); go_step) | ((with_reducible apply gs9 114); (refine wl9 ?_; apply wp_lookupN (enc := ik) hS 89 _ _ rfl _ rfl _ rfl Tryd.underlying89 (keyLaw_int Tryd.underlying3) (.int .i64 0) (fun w => Tryd.zeroValue3 w) _; (case hp => exact pl9); (case hf => with_reducible assumption); refine put_move ?_; go_step)) | ((with_reducible apply gt9 _ (.mapUpdate 89 _ _ _)); (refine wl9 ?_; apply wp_mapUpdate (enc := ik) hS 89 _ _ _ rfl _ rfl _ rfl Tryd.underlying89 (keyLaw_int Tryd.underlying3) _; (case hp => exact pl9); (case hv => (first | exact IsV.int rfl | exact IsV.bool rfl | exact IsV.slice rfl | exact IsV.pointer rfl | exact IsV.string rfl | exact IsV.map rfl | exact IsV.func rfl | exact IsV.agg rfl)); (case hd => exact rfl); clear hS; intro w hS)) | ((fail_if_success with_reducible apply ga9); go_step))
               rw [HSN.out] at hS
               go_roundg (gk - 1)
               case measure => omega
               case rel => exact ⟨b + 1, by omega, by go_num, by rw [HTK2.out]; exact hS⟩
             · rw [if_neg hm0] at hfe
               repeat' (first
                | ((with_reducible apply gs9 115); (refine wplV (.int _ (((m + 1 : Nat) : Int))) (V.as (V.addI rfl rfl (by omega)) (by omega)) rfl ?_; go_step)) | ((with_reducible apply gs9 116); (refine wplV (.int _ (((b + 1 : Nat) : Int))) (V.as (V.addI rfl rfl (by omega)) (by omega)) rfl ?_; go_step)) | ((with_reducible apply mv9); (first | go_big_want | go_step); go_step) | ((with_reducible apply gs9 114); (refine wl9 ?_; apply wp_lookupS (enc := ik) hS 89 _ _ rfl _ rfl _ rfl Tryd.underlying89 (keyLaw_int Tryd.underlying3) (.int .i64 0) (fun w => Tryd.zeroValue3 w) _; (case hp => exact pl9); (case hf => with_reducible assumption); refine put_move ?_; go_step)) | ((with_reducible apply gt9 _ (.mapUpdate 89 _ _ _)); (refine wl9 ?_; apply wp_mapUpdate (enc := ik) hS 89 _ _ _ rfl _ rfl _ rfl Tryd.underlying89 (keyLaw_int Tryd.underlying3) _; (case hp => exact pl9); (case hv => (first | exact IsV.int rfl | exact IsV.bool rfl | exact IsV.slice rfl | exact IsV.pointer rfl | exact IsV.string rfl | exact IsV.map rfl | exact IsV.func rfl | exact IsV.agg rfl)); (case hd => exact rfl); clear hS; intro w hS)) | ((fail_if_success with_reducible apply ga9); go_step))
               rw [HSN.out] at hS
               go_roundg (gk - 1)
               case measure => omega
               case rel => exact ⟨b + 1, by omega, by go_num, by rw [HTK2.out]; exact hS⟩
           · obtain rfl : b = px.length := by omega
             rw [List.take_length, ← HTK.out] at hS
             repeat' (first
              | ((with_reducible apply gs9 109); (refine wvv9 (V.lss rfl rfl) ?_; go_step)) | ((fail_if_success with_reducible apply ga9); go_step))
             repeat' (first
              | ((with_reducible apply gs9 117); (refine wplV (.int _ (((a + 1 : Nat) : Int))) (V.as (V.addI rfl rfl (by omega)) (by omega)) rfl ?_; go_step)) | ((with_reducible apply mv9); (first | go_big_want | go_step); go_step) | ((fail_if_success with_reducible apply ga9); go_step))
             go_roundg (gk2 - 1)
             case measure => omega
             case rel => exact ⟨a + 1, by omega, by go_num, hS⟩
        · obtain rfl : a = Tn := by omega
          have HFE : Hid (∀ s, cntF (syl ((G2.map gpM).take a)) s = if f s = 0 then none else some (.int .i64 (f s : Nat))) := fun s => by rw [hf]; rfl
          obtain ⟨F, hF⟩ : ∃ F, cntF (syl ((G2.map gpM).take a)) = F := ⟨_, rfl⟩
          rw [hF] at hS HFE
          have hf16 : ∀ s, f s ≤ 5000 := fun s => by
           rw [hf]
           have h1 := HR2.out.syll
           rw [sgs_syl, HNL.out] at h1
           have h2 : syl (G2.map gpM) = syl ((G2.map gpM).take a) ++ syl ((G2.map gpM).drop a) := by rw [← syl_append, List.take_append_drop]
           rw [h2, List.length_append] at h1
           have h3 := List.count_le_length (a := s) (l := syl ((G2.map gpM).take a))
           unfold lng
           omega
          have HF16 := hid hf16
          have HFF : Hid (f = lng ((G2.map gpM).take (2 * (sgs c k).length - 2))) := by unfold Hid; rw [HNL.out, hTn]; exact hf
          clear hF hf hf16
          replace hS := hS.sub (xs := [mp ik g93 F, prt g2 [.ints (List.replicate 16 0), .val (.slice none 0 0)]]) sb9
          repeat' (first
           | ((with_reducible apply gs9 102); (refine wvv9 (V.lss rfl rfl) ?_; go_step)) | ((fail_if_success with_reducible apply ga9); go_step))
          repeat' (first
           | ((with_reducible apply mv9); (first | go_big_want | go_step); go_step) | ((with_reducible apply gs9 16); (refine wl9 ?_; apply wp_allocP (o := ⟨some 16, _, _, _, _, _⟩) hS 31 rfl _ zp31; clear hS; intro g16 w hS; refine put_move ?_; go_step)) | ((fail_if_success with_reducible apply ga9); go_step))
          replace hS := ((hS.sub (xs := [mp ik g93 F, prt g2 [.ints (List.replicate 16 0), .val (.slice none 0 0)], prt g16 [.ints (List.replicate 16 0), .val (.slice none 0 0)]]) sb9).nilk 3 1 .i64)
          go_loopg [118] 16 (fun gk iv w => ∃ (q ls : Nat) (C S : List Int) (ao : Option Addr) (co : Nat), gk + q = 16 ∧ iv = .int .i64 q ∧ ls = S.length ∧ Len C 16 ∧ (∀ i, i < 16 → nth C i = cntTo f k q 0 i) ∧ S = symsTo f k q ∧ St w0 w [own 3 1 ao ls co (S.map (Value.int .i64)), mp ik g93 F, prt g2 [.ints (List.replicate 16 0), .val (.slice none 0 0)], prt g16 [.ints C, .val (.slice ao ls co)]])
          case atStart => exact ⟨0, 0, List.replicate 16 0, [], none, 0, by omega, rfl, rfl, Len.rep, fun i hi => by rw [nth_zeros]; unfold cntTo; rw [if_neg (by omega)]; split <;> rfl, rfl, hS⟩
          case round =>
           clear hS
           obtain ⟨q, ls, C, S, ao, co, hq, rfl, hls, hC, hCn, hSe, hS⟩ := hrel
           have HCN := hid hCn
           have HSE := hid hSe
           clear hCn hSe
           by_cases hlt5 : q < 16
           · obtain ⟨gk3, hgk3⟩ : ∃ x, x = gk := ⟨_, rfl⟩
             subst hgk3
             have HLS : Hid (S.length ≤ 16 * 256) := by
              unfold Hid
              rw [HSE.out]
              have h1 := symsTo_len f k q
              have h2 : q * k ≤ 16 * 256 := Nat.mul_le_mul (by omega) (by omega)
              omega
             repeat' (first
              | ((first | (with_reducible apply mv9) | (with_reducible apply as9)); (first | go_big_want | go_step); go_step) | ((with_reducible apply gs9 119); (refine wvv9 (V.lss rfl rfl) ?_; go_step)) | ((with_reducible apply gs9 122); (refine wvv9 (V.len Tryd.underlying24 rfl) ?_; go_step)) | ((fail_if_success with_reducible apply ga9); go_step))
             go_loopg [123] k (fun gk iv w => ∃ (s ls : Nat) (C S' : List Int) (ao : Option Addr) (co : Nat), gk + s = k ∧ iv = .int .i64 s ∧ ls = S'.length ∧ Len C 16 ∧ (∀ i, i < 16 → nth C i = cntTo f k q s i) ∧ S' = S ++ symsK f s (q + 1) ∧ St w0 w [own 3 1 ao ls co (S'.map (Value.int .i64)), mp ik g93 F, prt g2 [.ints (List.replicate 16 0), .val (.slice none 0 0)], prt g16 [.ints C, .val (.slice ao ls co)]])
             case atStart => exact ⟨0, ls, C, S, ao, co, by omega, rfl, hls, hC, HCN.out, by simp [symsK], hS⟩
             case round =>
              clear hS hC HCN
              obtain ⟨s, ls, C, S', ao, co, hs, rfl, hls2, hC, hCn, hSe, hS⟩ := hrel
              have HCN := hid hCn
              have HSE2 := hid hSe
              have hS'l : ls ≤ 10000 := by
               rw [hls2, hSe, List.length_append]
               have := symsK_len f s (q + 1)
               have := HLS.out
               omega
              clear hCn hSe
              by_cases hlt6 : s < k
              · have hfe := HFE.out (s : Int)
                have hf5 := HF16.out (s : Int)
                obtain ⟨fs, hfs⟩ : ∃ fs, f (s : Int) = fs := ⟨_, rfl⟩
                rw [hfs] at hfe hf5
                have hsk := symsK_succ f s (q + 1)
                rw [hfs] at hsk
                by_cases hfq : fs = q + 1
                · rw [if_neg (by omega)] at hfe
                  rw [if_pos hfq] at hsk
                  have hnq := HCN.out q hlt5
                  have hbq : nth C q = ((symsK f s (q + 1)).length : Nat) := by
                   rw [hnq]; unfold cntTo; rw [if_neg (by omega), if_pos rfl]
                  have hbl := symsK_len f s (q + 1)
                  have HSK := hid hsk
                  have HBQ := hid hbq
                  have hbb : 0 ≤ nth C q ∧ nth C q ≤ 256 := by rw [hbq]; omega
                  clear hsk hfs hnq hbq hbl
                  repeat' (first
                   | ((with_reducible apply gs9 130); (refine wplV (.int _ (((q + 1 : Nat) : Int))) (V.as (V.addI rfl rfl (by omega)) (by omega)) rfl ?_; go_step)) | ((first | (with_reducible apply mv9) | (with_reducible apply as9)); (first | go_big_want | go_step); go_step) | ((with_reducible apply gs9 124); (refine wvv9 (V.lss rfl rfl) ?_; go_step)) | ((with_reducible apply gs9 131); (refine wvv9 (V.eql rfl rfl) ?_; go_step)) | ((with_reducible apply gs9 128); (refine wl9 ?_; apply wp_lookupS (enc := ik) hS 89 _ _ rfl _ rfl _ rfl Tryd.underlying89 (keyLaw_int Tryd.underlying3) (.int .i64 0) (fun w => Tryd.zeroValue3 w) _; (case hp => exact pl9); (case hf => with_reducible assumption); refine put_move ?_; go_step)) | ((fail_if_success with_reducible apply ga9); go_step))
                  repeat' (first
                   | ((with_reducible apply mv9); (first | go_big_want | go_step); go_step) | ((with_reducible apply gs9 133); (refine wvv9 (V.fieldAddr fo31_0 rfl nq9) ?_; go_step)) | ((with_reducible apply gs9 134); (refine wvv9 (V.indexAr Tryd.underlying29 isz3 rfl rfl isn9 (by omega) (Nat.mul_one _) nq9) ?_; go_step)) | ((with_reducible apply gs9 136); (refine wvv9 (V.addI rfl rfl (by omega)) ?_; go_step)) | ((with_reducible apply gs9 137); (refine wvv9 (V.fieldAddr fo31_0 rfl nq9) ?_; go_step)) | ((with_reducible apply gs9 138); (refine wvv9 (V.indexAr Tryd.underlying29 isz3 rfl rfl isn9 (by omega) (Nat.mul_one _) nq9) ?_; go_step)) | ((with_reducible apply gs9 139); (refine wvv9 (V.fieldAddr fo31_1 rfl nq9) ?_; go_step)) | ((with_reducible apply gs9 144); (refine wvv9 (V.fieldAddr fo31_1 rfl nq9) ?_; go_step)) | ((with_reducible apply gt9 _ (.load 3 _)); (refine wl9 ?_; apply wp_load1P hS 3 _ rfl _ _ rfl (one_of rfl) _; (case hp => exact pl9); (case hi => (repeat (first | (apply AtI.head; (case hn => (first | (with_reducible assumption) | exact Len.rep | exact Len.set (by with_reducible assumption) | exact Len.set Len.rep | exact Len.set (Len.set Len.rep))); (case h => omega)) | (apply AtI.skipI; (case hn => (first | (with_reducible assumption) | exact Len.rep | exact Len.set (by with_reducible assumption) | exact Len.set Len.rep | exact Len.set (Len.set Len.rep))); (case h => omega); (case ho => rfl)) | apply AtI.skipV))); refine put_move ?_; go_step)) | ((with_reducible apply gt9 _ (.store 3 _ _)); (refine wl9 ?_; apply wp_store1P hS 3 _ _ rfl _ _ rfl (one_of rfl) _ _; (case hp => exact pl9); (case hy => rfl); (case hi => (repeat (first | (apply PutI.head; (case hn => (first | (with_reducible assumption) | exact Len.rep | exact Len.set (by with_reducible assumption) | exact Len.set Len.rep | exact Len.set (Len.set Len.rep))); (case h => omega)) | (apply PutI.skipI; (case hn => (first | (with_reducible assumption) | exact Len.rep | exact Len.set (by with_reducible assumption) | exact Len.set Len.rep | exact Len.set (Len.set Len.rep))); (case h => omega); (case ho => rfl)) | apply PutI.skipV))); (case hd => exact rfl); clear hS; intro w hS)) | ((with_reducible apply gt9 _ (.load 24 _)); (refine wl9 ?_; apply wp_loadVP hS 24 _ rfl _ _ rfl (one_of rfl) _; (case hp => exact pl9); (case hi => (repeat (first | exact AtV.head | (apply AtV.skipI; (case hn => (first | (with_reducible assumption) | exact Len.rep | exact Len.set (by with_reducible assumption) | exact Len.set Len.rep | exact Len.set (Len.set Len.rep))); (case h => omega); (case ho => rfl)) | apply AtV.skipV))); refine put_move ?_; go_step)) | ((with_reducible apply gs9 142); (refine wl9 ?_; apply wp_buildSlice1 (o := ⟨some 142, _, _, _, _, _⟩) hS 24 1 _ rfl 3 1 8 el24 _ _; (case hvs => (repeat (first | exact Parts.nil | (apply Parts.agg; (rfl); (rfl)) | (apply Parts.one; exact isv9; (rfl); (rfl))))); (case hn => rfl); (case hn0 => decide); (case hns => decide); clear hS; intro g142 w hS; refine put_move ?_; go_step)) | ((with_reducible apply gs9 143); (refine wl9 ?_; apply wp_append (o := ⟨some 143, _, _, _, _, _⟩) hS _ _ 24 rfl 3 1 8 el24 _ _ _ _ rfl; (case hp => exact pl9); (case hx => exact rfl); (case hm => (first | exact hS.slBlk pl9 (by rfl) (by decide) | exact hS.sl pl9 | with_reducible assumption | exact Sl.ext (by with_reducible assumption) hS.1 | exact Sl.nil _ _ | exact Sl.ext (by assumption) hS.1 | assumption)); (case h1 => (first | exact oneAll rfl | exact oneMap _ _ | (intro u hu; cases hu))); (case h63 => unfold maxLen; omega); (case hb => omega); clear hS; intro ad143 c143 w hS; (first | simp only [mapk1] at hS | simp only [mapk2] at hS | simp only [mapk3] at hS | simp only [mapk4] at hS | simp only [mapkl] at hS | skip); refine put_move ?_; go_step)) | ((with_reducible apply gt9 _ (.store 24 _ _)); (refine wl9 ?_; apply wp_storeVP hS 24 _ _ rfl _ _ rfl (one_of rfl) _ _; (case hp => exact pl9); (case hy => exact isv9); (case hz => rfl); (case hi => (repeat (first | exact PutV.head | (apply PutV.skipI; (case hn => (first | (with_reducible assumption) | exact Len.rep | exact Len.set (by with_reducible assumption) | exact Len.set Len.rep | exact Len.set (Len.set Len.rep))); (case h => omega); (case ho => rfl)) | apply PutV.skipV))); (case hd => exact rfl); clear hS; intro w hS)) | ((fail_if_success with_reducible apply ga9); go_step))
                  repeat' (first
                   | ((with_reducible apply gs9 145); (refine wplV (.int _ (((s + 1 : Nat) : Int))) (V.as (V.addI rfl rfl (by omega)) (by omega)) rfl ?_; go_step)) | ((with_reducible apply mv9); (first | go_big_want | go_step); go_step) | ((fail_if_success with_reducible apply ga9); go_step))
                  go_roundg (gk - 1)
                  case measure => omega
                  case rel =>
                   refine ⟨s + 1, ls + 1, C.set q (nth C q + 1), S' ++ [(s : Int)], ad143, c143, by omega, by go_num, by rw [List.length_append, ← hls2]; rfl, hC.set, fun i hi => ?_, by rw [HSE2.out, HSK.out, List.append_assoc], hS.sub sb9⟩
                   rw [nth_set _ _ _ _ (by rw [hC.out]; exact hlt5)]
                   unfold cntTo
                   by_cases hiq : q = i
                   · subst hiq
                     rw [if_pos rfl, if_neg (by omega), if_pos rfl, HSK.out, HBQ.out, List.length_append]; rfl
                   · rw [if_neg hiq, HCN.out i hi]
                     unfold cntTo
                     by_cases hi2 : i < q
                     · rw [if_pos hi2, if_pos hi2]
                     · rw [if_neg hi2, if_neg hi2, if_neg (by omega), if_neg (by omega)]
                · rw [if_neg hfq] at hsk
                  have HSK := hid hsk
                  have HN2 : Hid (∀ i, i < 16 → nth C i = cntTo f k q (s + 1) i) := fun i hi => by
                   rw [HCN.out i hi]
                   unfold cntTo
                   by_cases hi2 : i < q
                   · rw [if_pos hi2, if_pos hi2]
                   · by_cases hi3 : i = q
                     · subst hi3; rw [if_neg hi2, if_neg hi2, if_pos rfl, if_pos rfl, hsk]
                     · rw [if_neg hi2, if_neg hi2, if_neg hi3, if_neg hi3]
                  clear hsk hfs
                  by_cases hf0 : fs = 0
                  · rw [if_pos hf0] at hfe
                    repeat' (first
                     | ((with_reducible apply gs9 130); (refine wplV (.int _ (((q + 1 : Nat) : Int))) (V.as (V.addI rfl rfl (by omega)) (by omega)) rfl ?_; go_step)) | ((first | (with_reducible apply mv9) | (with_reducible apply as9)); (first | go_big_want | go_step); go_step) | ((with_reducible apply gs9 124); (refine wvv9 (V.lss rfl rfl) ?_; go_step)) | ((with_reducible apply gs9 131); (refine wvv9 (V.eql rfl rfl) ?_; go_step)) | ((with_reducible apply gs9 128); (refine wl9 ?_; apply wp_lookupN (enc := ik) hS 89 _ _ rfl _ rfl _ rfl Tryd.underlying89 (keyLaw_int Tryd.underlying3) (.int .i64 0) (fun w => Tryd.zeroValue3 w) _; (case hp => exact pl9); (case hf => with_reducible assumption); refine put_move ?_; go_step)) | ((fail_if_success with_reducible apply ga9); go_step))
                    repeat' (first
                     | ((with_reducible apply gs9 145); (refine wplV (.int _ (((s + 1 : Nat) : Int))) (V.as (V.addI rfl rfl (by omega)) (by omega)) rfl ?_; go_step)) | ((with_reducible apply mv9); (first | go_big_want | go_step); go_step) | ((fail_if_success with_reducible apply ga9); go_step))
                    go_roundg (gk - 1)
                    case measure => omega
                    case rel => exact ⟨s + 1, ls, C, S', ao, co, by omega, by go_num, hls2, hC, HN2.out, by rw [HSE2.out, HSK.out], hS.sub sb9⟩
                  · rw [if_neg hf0] at hfe
                    repeat' (first
                     | ((with_reducible apply gs9 130); (refine wplV (.int _ (((q + 1 : Nat) : Int))) (V.as (V.addI rfl rfl (by omega)) (by omega)) rfl ?_; go_step)) | ((first | (with_reducible apply mv9) | (with_reducible apply as9)); (first | go_big_want | go_step); go_step) | ((with_reducible apply gs9 124); (refine wvv9 (V.lss rfl rfl) ?_; go_step)) | ((with_reducible apply gs9 131); (refine wvv9 (V.eql rfl rfl) ?_; go_step)) | ((with_reducible apply gs9 128); (refine wl9 ?_; apply wp_lookupS (enc := ik) hS 89 _ _ rfl _ rfl _ rfl Tryd.underlying89 (keyLaw_int Tryd.underlying3) (.int .i64 0) (fun w => Tryd.zeroValue3 w) _; (case hp => exact pl9); (case hf => with_reducible assumption); refine put_move ?_; go_step)) | ((fail_if_success with_reducible apply ga9); go_step))
                    repeat' (first
                     | ((with_reducible apply gs9 145); (refine wplV (.int _ (((s + 1 : Nat) : Int))) (V.as (V.addI rfl rfl (by omega)) (by omega)) rfl ?_; go_step)) | ((with_reducible apply mv9); (first | go_big_want | go_step); go_step) | ((fail_if_success with_reducible apply ga9); go_step))
                    go_roundg (gk - 1)
                    case measure => omega
                    case rel => exact ⟨s + 1, ls, C, S', ao, co, by omega, by go_num, hls2, hC, HN2.out, by rw [HSE2.out, HSK.out], hS.sub sb9⟩
              · obtain rfl : s = k := by omega
                repeat' (first
                 | ((with_reducible apply gs9 124); (refine wvv9 (V.lss rfl rfl) ?_; go_step)) | ((fail_if_success with_reducible apply ga9); go_step))
                repeat' (first
                 | ((with_reducible apply gs9 146); (refine wplV (.int _ (((q + 1 : Nat) : Int))) (V.as (V.addI rfl rfl (by omega)) (by omega)) rfl ?_; go_step)) | ((with_reducible apply mv9); (first | go_big_want | go_step); go_step) | ((fail_if_success with_reducible apply ga9); go_step))
                go_roundg (gk3 - 1)
                case measure => omega
                case rel =>
                 refine ⟨q + 1, ls, C, S', ao, co, by omega, by go_num, hls2, hC, fun i hi => ?_, by rw [HSE2.out, HSE.out, symsTo_succ], hS⟩
                 rw [HCN.out i hi]
                 unfold cntTo
                 by_cases hi2 : i < q
                 · rw [if_pos hi2, if_pos (by omega)]
                 · by_cases hi3 : i = q
                   · subst hi3; rw [if_neg hi2, if_pos rfl, if_pos (by omega)]
                   · rw [if_neg hi2, if_neg hi3, if_neg (by omega)]
                     split <;> rfl
           · obtain rfl : q = 16 := by omega
             have hCf : ∀ i, i < 16 → nth C i = ((symsK f k (i + 1)).length : Nat) := fun i hi => by
              rw [HCN.out i hi]; unfold cntTo; rw [if_pos hi]
             have HCF := hid hCf
             clear hCf HCN
             repeat' (first
              | ((with_reducible apply gs9 119); (refine wvv9 (V.lss rfl rfl) ?_; go_step)) | ((fail_if_success with_reducible apply ga9); go_step))
             repeat' (first
              | ((with_reducible apply as9); (first | go_big_want | go_step); go_step) | ((with_reducible apply gt9 _ (.load 31 _)); (refine wl9 ?_; apply wp_loadPP hS 31 _ rfl _ _ rfl 17 (row_of rfl) _; (case hp => exact pl9); (case hi => (repeat (first | (apply AtP.head; (repeat (first | exact Pre.nil | (apply Pre.ints; (case hn => (first | (with_reducible assumption) | exact Len.rep | exact Len.set (by with_reducible assumption) | exact Len.set Len.rep | exact Len.set (Len.set Len.rep))); (case h => omega); (case hm => rfl)) | apply Pre.val))) | (apply AtP.skipI; (case hn => (first | (with_reducible assumption) | exact Len.rep | exact Len.set (by with_reducible assumption) | exact Len.set Len.rep | exact Len.set (Len.set Len.rep))); (case h => omega); (case ho => rfl)) | apply AtP.skipV))); refine put_move ?_; go_step)) | ((with_reducible apply gt9 _ (.store 31 _ _)); (refine wl9 ?_; apply wp_storePP hS 31 _ _ rfl _ rfl 17 (row_of rfl) _ _; (case hp => exact pl9); (case hy => rfl); (case hn => (repeat (first | exact Pre.nil | (apply Pre.ints; (case hn => (first | (with_reducible assumption) | exact Len.rep | exact Len.set (by with_reducible assumption) | exact Len.set Len.rep | exact Len.set (Len.set Len.rep))); (case h => omega); (case hm => rfl)) | apply Pre.val))); (case hn' => (repeat (first | exact Pre.nil | (apply Pre.ints; (case hn => (first | (with_reducible assumption) | exact Len.rep | exact Len.set (by with_reducible assumption) | exact Len.set Len.rep | exact Len.set (Len.set Len.rep))); (case h => omega); (case hm => rfl)) | apply Pre.val))); (case hv => rfl); (case hd => exact rfl); clear hS; intro w hS)) | ((fail_if_success with_reducible apply ga9); go_step))
             refine ret_all (xs := [_, _]) rfl (.cons (OneRes.prt hS rfl (row_of (n := 17) rfl) pl9 (by (repeat (first | exact Pre.nil | (apply Pre.ints; (case hn => (first | (with_reducible assumption) | exact Len.rep | exact Len.set (by with_reducible assumption) | exact Len.set Len.rep | exact Len.set (Len.set Len.rep))); (case h => omega); (case hm => rfl)) | apply Pre.val)))) (.cons (OneRes.tmp rfl) (.nil))) (by simp) rfl ?_
             exact ⟨f, G2.map gpM, C, S, ao, co, HR2.out, HFF.out, hC, HCF.out, HSE.out, by rw [← hls]; rfl, by rw [← hls]; exact hS.sub sb9⟩

end Go.Proofs.YtehbjhocgnfpmaaDoor
/- What best.Make's table is: valid, with words of the lengths that packages gave; and what any table costs. -/
namespace Go.Proofs.YtehbjhocgnfpmaaDoor
set_option linter.unusedVariables false
def posL (c : List Int) (n : Nat) : List Int := ((List.range n).filter fun s => decide (0 < nth c s)).map fun (s : Nat) => (s : Int)
def wOf (c : List Int) (s : Int) : Int := if s = -1 then 0 else nth c s.toNat
theorem posL_mem (c : List Int) (n : Nat) (s : Int) : s ∈ posL c n ↔ 0 ≤ s ∧ s < n ∧ 0 < nth c s.toNat := by
 unfold posL
 simp only [List.mem_map, List.mem_filter, List.mem_range, decide_eq_true_eq]
 constructor
 · rintro ⟨a, ⟨h1, h2⟩, rfl⟩; exact ⟨by omega, by omega, by simpa using h2⟩
 · intro ⟨h1, h2, h3⟩; exact ⟨s.toNat, ⟨by omega, h3⟩, by omega⟩
theorem posL_nodup (c : List Int) (n : Nat) : (posL c n).Nodup := by
 unfold posL
 rw [List.nodup_iff_pairwise_ne, List.pairwise_map]
 refine List.Pairwise.imp ?_ (List.Pairwise.filter _ List.nodup_range)
 intro a b h e
 exact h (by omega)
theorem sgs_sing (c : List Int) (n : Nat) : Sing (sgs c n) (-1 :: posL c n) := by
 refine ⟨?_, List.nodup_cons.2 ⟨fun h => by have := (posL_mem c n _).1 h; omega, posL_nodup c n⟩⟩
 unfold sgs posL
 simp [List.map_map, Function.comp_def]
theorem sgs_w (c : List Int) (n : Nat) : ∀ x ∈ sgs c n, x.1 = isum (wOf c) x.2 := by
 intro x hx
 rcases List.mem_cons.1 hx with rfl | hx
 · simp [isum, wOf]
 · obtain ⟨s, _, rfl⟩ := List.mem_map.1 hx
   simp only [isum, List.map_cons, List.map_nil, List.sum_cons, List.sum_nil, wOf]
   rw [if_neg (by omega)]; simp
theorem nx_sum (c : Nat → Nat) : ∀ k, k ≤ 16 → nx c k * 2 ^ (16 - k) = sm (fun i => c i * 2 ^ (15 - i)) k
 | 0, _ => by simp [nx, sm]
 | k + 1, h => by
  have ih := nx_sum c k (by omega)
  rw [sm, ← ih, nx, Nat.add_mul, show 16 - k = (16 - (k + 1)) + 1 by omega, show 16 - (k + 1) = 15 - k by omega, Nat.pow_succ]
  rw [Nat.mul_comm 2 (nx c k), Nat.mul_assoc, Nat.mul_comm 2 (2 ^ (15 - k))]
theorem sm_addf (a b : Nat → Nat) : ∀ k, sm (fun i => a i + b i) k = sm a k + sm b k
 | 0 => rfl
 | k + 1 => by simp only [sm]; rw [sm_addf a b k]; omega
theorem sm_congrf {a b : Nat → Nat} : ∀ k, (∀ i, i < k → a i = b i) → sm a k = sm b k
 | 0, _ => rfl
 | k + 1, h => by simp only [sm]; rw [sm_congrf k fun i hi => h i (by omega), h k (by omega)]
def bit16 (l : Nat) : Nat := if 1 ≤ l then 2 ^ (16 - l) else 0
theorem one_row (l : Nat) (h : l ≤ 16) : sm (fun i => (if l = i + 1 then 1 else 0) * 2 ^ (15 - i)) 16 = bit16 l := by
 have : ∀ l, l < 17 → sm (fun i => (if l = i + 1 then 1 else 0) * 2 ^ (15 - i)) 16 = bit16 l := by decide
 exact this l (by omega)
theorem rows_sum (f : Int → Nat) (hf : ∀ s, f s ≤ 16) : ∀ n, sm (fun i => (symsK f n (i + 1)).length * 2 ^ (15 - i)) 16 = nsum (fun s : Nat => bit16 (f (s : Int))) (List.range n)
 | 0 => by simp [symsK, nsum]; decide
 | n + 1 => by
  rw [List.range_succ, nsum_append, ← rows_sum f hf n]
  have : nsum (fun s : Nat => bit16 (f (s : Int))) [n] = bit16 (f (n : Int)) := by simp [nsum]
  rw [this, ← one_row _ (hf _), ← sm_addf]
  refine sm_congrf 16 fun i hi => ?_
  rw [symsK_succ, ← Nat.add_mul]
  by_cases h : f (n : Int) = i + 1
  · rw [if_pos h, if_pos h, List.length_append]; rfl
  · rw [if_neg h, if_neg h]; rfl
theorem nsum_map {α β : Type} (g : α → β) (f : β → Nat) (l : List α) : nsum f (l.map g) = nsum (fun x => f (g x)) l := by
 unfold nsum; rw [List.map_map]; rfl
theorem isum_map {α β : Type} (g : α → β) (f : β → Int) (l : List α) : isum f (l.map g) = isum (fun x => f (g x)) l := by
 unfold isum; rw [List.map_map]; rfl
theorem nsum_filter {α : Type} (p : α → Bool) (f : α → Nat) (l : List α) (h : ∀ x ∈ l, p x = false → f x = 0) : nsum f (l.filter p) = nsum f l := by
 induction l with
 | nil => rfl
 | cons x l ih =>
  have ih := ih fun y hy => h y (by simp [hy])
  rw [List.filter_cons]
  by_cases hp : p x = true
  · rw [if_pos hp, nsum_cons, nsum_cons, ih]
  · rw [if_neg hp, nsum_cons, ih, h x (by simp) (by simpa using hp), Nat.zero_add]
theorem isum_filter {α : Type} (p : α → Bool) (f : α → Int) (l : List α) (h : ∀ x ∈ l, p x = false → f x = 0) : isum f (l.filter p) = isum f l := by
 induction l with
 | nil => rfl
 | cons x l ih =>
  have ih := ih fun y hy => h y (by simp [hy])
  rw [List.filter_cons]
  by_cases hp : p x = true
  · rw [if_pos hp, isum_cons, isum_cons, ih]
  · rw [if_neg hp, isum_cons, ih, h x (by simp) (by simpa using hp), Int.zero_add]
def costL (c : List Int) (n : Nat) (l : Int → Nat) : Int := isum (fun s : Nat => nth c s * (l (s : Int) : Nat)) (List.range n)
structure LenOk (c : List Int) (n : Nat) (l : Int → Nat) : Prop where
 top : ∀ s ∈ posL c n, 1 ≤ l s ∧ l s ≤ 16
 kraft : nsum (fun s => 2 ^ (16 - l s)) (posL c n) < 2 ^ 16
theorem costL_pos (c : List Int) (n : Nat) (l : Int → Nat) (h0 : ∀ i, i < n → 0 ≤ nth c i) : isum (fun s => wOf c s * (l s : Nat)) (posL c n) = costL c n l := by
 unfold posL costL
 rw [isum_map, isum_congr _ (fun s : Nat => nth c s * (l (s : Int) : Nat)) _ fun s _ => ?_]
 · refine isum_filter _ _ _ fun x hx hp => ?_
   have := h0 x (List.mem_range.1 hx)
   have h1 : ¬ 0 < nth c x := by simpa using hp
   rw [show nth c x = 0 by omega, Int.zero_mul]
 · unfold wOf; rw [if_neg (by omega)]; simp
theorem made_law {c : List Int} {n : Nat} {R : List Pk} (hn : n ≤ 256) (h0 : ∀ i, i < n → 0 ≤ nth c i) (hR : RowK (sgs c n) 16 R) (f : Int → Nat) (hf : f = lng (R.take (2 * (sgs c n).length - 2))) :
 (∀ s, f s ≤ 16) ∧ (∀ s, s ∉ posL c n → 0 ≤ s → f s = 0) ∧ LenOk c n f ∧ (∀ l, LenOk c n l → costL c n f ≤ costL c n l) ∧ (∀ a b, a ∈ posL c n → b ∈ posL c n → nth c b.toNat < nth c a.toNat → f a ≤ f b) := by
 have hS := sgs_sing c n
 have hlen := hS.len
 have hpl : (posL c n).length ≤ n := by
  unfold posL
  have := List.length_filter_le (fun s => decide (0 < nth c s)) (List.range n)
  simp at this ⊢; exact this
 have hw0 : ∀ s ∈ (-1 :: posL c n), 0 ≤ wOf c s := fun s hs => by
  rcases List.mem_cons.1 hs with rfl | hs
  · simp [wOf]
  · have := (posL_mem c n s).1 hs
    unfold wOf; rw [if_neg (by omega)]; omega
 obtain ⟨_, b1, b2, b3, b4, b5⟩ := best_spec hS (wOf c) (sgs_w c n) hw0 (by simp) (by simp; omega) hR
 rw [← hlen, ← hf] at b1 b2 b3 b4 b5
 have hpos : ∀ s ∈ posL c n, 1 ≤ f s := fun s hs => kraft_pos b3 (List.mem_cons_of_mem _ hs) (List.mem_cons_self (a := -1)) (by have := (posL_mem c n s).1 hs; omega)
 rw [nsum_cons] at b3
 have hone : 1 ≤ 2 ^ (16 - f (-1)) := Nat.one_le_two_pow
 refine ⟨b1, fun s hs hs0 => b2 s (by simp only [List.mem_cons, not_or]; exact ⟨by omega, hs⟩), ⟨fun s hs => ⟨hpos s hs, b1 s⟩, by omega⟩, fun l hl => ?_, fun a b ha hb hab => ?_⟩
 · have hb4 := b4 (fun s => if s = -1 then 16 else l s) (fun s hs => by
    show (if s = -1 then 16 else l s) ≤ 16
    rcases List.mem_cons.1 hs with rfl | hs
    · simp
    · have := (posL_mem c n s).1 hs
      rw [if_neg (by omega)]; exact (hl.top s hs).2) (by
    rw [nsum_cons]
    have := hl.kraft
    have e : nsum (fun s => 2 ^ (16 - (if s = -1 then 16 else l s))) (posL c n) = nsum (fun s => 2 ^ (16 - l s)) (posL c n) := nsum_congr _ _ _ fun s hs => by
     have := (posL_mem c n s).1 hs
     rw [if_neg (by omega)]
    rw [e]; simp; simp at this; omega)
   rw [isum_cons, isum_cons] at hb4
   have z : ∀ x : Int, wOf c (-1) * x = 0 := fun x => by simp [wOf]
   rw [z, z, costL_pos c n f h0] at hb4
   have e : isum (fun s => wOf c s * ((if s = -1 then 16 else l s : Nat) : Int)) (posL c n) = isum (fun s => wOf c s * (l s : Nat)) (posL c n) := isum_congr _ _ _ fun s hs => by
    have := (posL_mem c n s).1 hs
    rw [if_neg (by omega)]
   rw [e, costL_pos c n l h0] at hb4
   omega
 · have h1 := (posL_mem c n a).1 ha
   have h2 := (posL_mem c n b).1 hb
   exact b5 a b (List.mem_cons_of_mem _ hb) (by unfold wOf; rw [if_neg (by omega), if_neg (by omega)]; exact hab)

theorem nx_congr {a b : Nat → Nat} : ∀ k, (∀ i, i < k → a i = b i) → nx a k = nx b k
 | 0, _ => rfl
 | k + 1, h => by rw [nx, nx, nx_congr k fun i hi => h i (by omega), h k (by omega)]
theorem cds_congr {a b : Nat → Nat} : ∀ k, (∀ i, i < k → a i = b i) → cds a k = cds b k
 | 0, _ => rfl
 | k + 1, h => by rw [cds, cds, cds_congr k fun i hi => h i (by omega), h k (by omega), nx_congr k fun i hi => h i (by omega)]
theorem one_row1 (l : Nat) (h : l ≤ 16) : sm (fun i => if l = i + 1 then 1 else 0) 16 = if 1 ≤ l then 1 else 0 := by
 have : ∀ l, l < 17 → sm (fun i => if l = i + 1 then 1 else 0) 16 = if 1 ≤ l then 1 else 0 := by decide
 exact this l (by omega)
theorem rows_len (f : Int → Nat) (hf : ∀ s, f s ≤ 16) : ∀ n, sm (fun i => (symsK f n (i + 1)).length) 16 = nsum (fun s : Nat => if 1 ≤ f (s : Int) then 1 else 0) (List.range n)
 | 0 => by simp [symsK, nsum]; decide
 | n + 1 => by
  rw [List.range_succ, nsum_append, ← rows_len f hf n]
  have : nsum (fun s : Nat => if 1 ≤ f (s : Int) then 1 else 0) [n] = if 1 ≤ f (n : Int) then 1 else 0 := by simp [nsum]
  rw [this, ← one_row1 _ (hf _), ← sm_addf]
  refine sm_congrf 16 fun i hi => ?_
  rw [symsK_succ]
  by_cases h : f (n : Int) = i + 1
  · rw [if_pos h, if_pos h, List.length_append]; rfl
  · rw [if_neg h, if_neg h]; rfl
theorem symsTo_sm (f : Int → Nat) (n : Nat) : ∀ k, (symsTo f n k).length = sm (fun i => (symsK f n (i + 1)).length) k
 | 0 => rfl
 | k + 1 => by rw [symsTo_succ, List.length_append, symsTo_sm f n k, sm]
theorem symsK_mem (f : Int → Nat) (n k : Nat) (s : Int) : s ∈ symsK f n k ↔ 0 ≤ s ∧ s < n ∧ f s = k := by
 unfold symsK
 simp only [List.mem_map, List.mem_filter, List.mem_range, decide_eq_true_eq]
 constructor
 · rintro ⟨a, ⟨h1, h2⟩, rfl⟩; exact ⟨by omega, by omega, h2⟩
 · intro ⟨h1, h2, h3⟩; exact ⟨s.toNat, ⟨by omega, by rw [Int.toNat_of_nonneg h1]; exact h3⟩, by omega⟩
theorem symsK_nodup (f : Int → Nat) (n k : Nat) : (symsK f n k).Nodup := by
 unfold symsK
 rw [List.nodup_iff_pairwise_ne, List.pairwise_map]
 refine List.Pairwise.imp ?_ (List.Pairwise.filter _ List.nodup_range)
 intro a b h e
 exact h (by omega)
theorem symsTo_mem (f : Int → Nat) (n : Nat) (s : Int) : ∀ k, s ∈ symsTo f n k ↔ 0 ≤ s ∧ s < n ∧ 1 ≤ f s ∧ f s ≤ k
 | 0 => by simp [symsTo]; intro _ _ _; omega
 | k + 1 => by
  rw [symsTo_succ, List.mem_append, symsTo_mem f n s k, symsK_mem]
  constructor
  · rintro (h | h) <;> omega
  · intro h
    by_cases e : f s = k + 1
    · right; omega
    · left; omega
theorem symsTo_nodup (f : Int → Nat) (n : Nat) : ∀ k, (symsTo f n k).Nodup
 | 0 => by simp [symsTo]
 | k + 1 => by
  rw [symsTo_succ, List.nodup_append]
  refine ⟨symsTo_nodup f n k, symsK_nodup f n (k + 1), fun a ha b hb e => ?_⟩
  subst e
  have h1 := (symsTo_mem f n a k).1 ha
  have h2 := (symsK_mem f n (k + 1) a).1 hb
  omega
theorem zip_words (f : Int → Nat) (n : Nat) : ∀ k, ∀ x ∈ (symsTo f n k).zip (cds (fun i => (symsK f n (i + 1)).length) k), x.2.1 = f x.1
 | 0, x, h => by simp [symsTo] at h
 | k + 1, x, h => by
  rw [symsTo_succ, cds, List.zip_append (by rw [symsTo_sm, cds_len])] at h
  rcases List.mem_append.1 h with h | h
  · exact zip_words f n k x h
  · have h1 := (List.of_mem_zip (a := x.1) (b := x.2) h)
    obtain ⟨j, _, e⟩ := List.mem_map.1 h1.2
    have h2 := (symsK_mem f n (k + 1) x.1).1 h1.1
    rw [h2.2.2, ← e]
def lw (L : List (Int × Nat × Nat)) (s : Int) : Nat := match symW L s with
 | some x => x.1
 | none => 0
theorem wds_fst {C S : List Int} (h : sm (cc C) 16 = S.length) : (wds C S).map (·.1) = S := by
 unfold wds
 exact List.map_fst_zip (by rw [cds_len, h]; exact Nat.le_refl _)
theorem wds_snd {C S : List Int} (h : sm (cc C) 16 = S.length) : (wds C S).map (·.2) = cds (cc C) 16 := by
 unfold wds
 exact List.map_snd_zip (by rw [cds_len, h]; exact Nat.le_refl _)
theorem lw_mem {C S : List Int} (h : tabE C S = 0) {x : Int × Nat × Nat} (hx : x ∈ wds C S) : symW (wds C S) x.1 = some x.2 ∧ lw (wds C S) x.1 = x.2.1 := by
 have := (wds_good h).symW hx
 exact ⟨this, by unfold lw; rw [this]⟩
theorem lw_in {C S : List Int} (h : tabE C S = 0) {s : Int} (hs : s ∈ S) : ∃ x ∈ wds C S, x.1 = s := by
 have h2 := (tabE_ok h).2.1
 rw [← wds_fst h2] at hs
 obtain ⟨x, hx, e⟩ := List.mem_map.1 hs
 exact ⟨x, hx, e⟩
theorem lw_pos {C S : List Int} (h : tabE C S = 0) (s : Int) : (s ∈ S → 1 ≤ lw (wds C S) s ∧ lw (wds C S) s ≤ 16) ∧ (s ∉ S → lw (wds C S) s = 0) := by
 constructor
 · intro hs
   obtain ⟨x, hx, rfl⟩ := lw_in h hs
   rw [(lw_mem h hx).2]
   have := (wds_good h).long x hx
   omega
 · intro hs
   unfold lw
   cases e : symW (wds C S) s with
   | none => rfl
   | some y => exact absurd (wds_mem C S _ (symW_mem e)).1 hs
theorem made_table {c C S : List Int} {n : Nat} {f : Int → Nat} (hn : n ≤ 256) (h16 : ∀ s, f s ≤ 16) (hz : ∀ s, s ∉ posL c n → 0 ≤ s → f s = 0) (hl : LenOk c n f) (hC : ∀ i, i < 16 → nth C i = ((symsK f n (i + 1)).length : Nat)) (hS : S = symsTo f n 16) :
 tabE C S = 0 ∧ (∀ s : Int, 0 ≤ s → s < n → lw (wds C S) s = f s) ∧ S.length = (posL c n).length ∧ (∀ s, s ∈ S ↔ s ∈ posL c n) := by
 have hcc : ∀ i, i < 16 → cc C i = (symsK f n (i + 1)).length := fun i hi => by unfold cc; rw [hC i hi]; simp
 have hmem : ∀ s, s ∈ S ↔ s ∈ posL c n := fun s => by
  rw [hS, symsTo_mem]
  constructor
  · intro h
    by_cases hp : s ∈ posL c n
    · exact hp
    · have := hz s hp h.1; omega
  · intro h
    have h1 := (posL_mem c n s).1 h
    have h2 := hl.top s h
    exact ⟨h1.1, h1.2.1, h2.1, h2.2⟩
 have hsm : sm (cc C) 16 = S.length := by rw [hS, symsTo_sm, sm_congrf 16 hcc]
 have hlen : S.length = (posL c n).length := by
  rw [hS, symsTo_sm, rows_len f h16]
  unfold posL
  rw [List.length_map, ← nsum_one]
  refine nsum_congr _ _ _ fun s hs => ?_
  by_cases hp : (s : Int) ∈ posL c n
  · have h1 := (posL_mem c n s).1 hp
    rw [if_pos (hl.top _ hp).1, if_pos (by simpa using h1.2.2)]
  · have h1 : ¬ 0 < nth c s := fun h => hp ((posL_mem c n s).2 ⟨by omega, by simp at hs; omega, by simpa using h⟩)
    rw [if_neg (by rw [hz _ hp (by omega)]; omega), if_neg (by simpa using h1)]
 have hpl : (posL c n).length ≤ n := by
  unfold posL
  have := List.length_filter_le (fun s => decide (0 < nth c s)) (List.range n)
  simp at this ⊢; exact this
 have hnx : nx (cc C) 16 < 65536 := by
  have h1 := nx_sum (fun i => (symsK f n (i + 1)).length) 16 (by omega)
  rw [rows_sum f h16] at h1
  rw [nx_congr 16 hcc]
  have h2 : nsum (fun s : Nat => bit16 (f (s : Int))) (List.range n) = nsum (fun s => 2 ^ (16 - f s)) (posL c n) := by
   unfold posL
   rw [nsum_map, ← nsum_filter (fun s => decide (0 < nth c s)) (fun s : Nat => bit16 (f (s : Int))) (List.range n) fun s hs hp => ?_]
   · refine nsum_congr _ _ _ fun s hs => ?_
     have h3 := List.mem_filter.1 hs
     have hp : (s : Int) ∈ posL c n := (posL_mem c n s).2 ⟨by omega, by have := h3.1; simp at this; omega, by simpa using h3.2⟩
     unfold bit16; rw [if_pos (hl.top _ hp).1]
   · have hp2 : (s : Int) ∉ posL c n := fun h => by have := ((posL_mem c n s).1 h).2.2; simp at this hp; omega
     unfold bit16; rw [hz _ hp2 (by omega)]; rfl
  rw [h2] at h1
  have := hl.kraft
  simp at h1 this
  omega
 have htab : tabE C S = 0 := by
  refine tabE_of ((totOk_iff C).2 ⟨fun k hk => ?_, by omega⟩) hsm (fun s hs => ?_) (by rw [hS]; exact symsTo_nodup f n 16) ((roomy_iff _).2 hnx)
  · have := symsK_len f n (k + 1)
    rw [hC k hk]; omega
  · have := (posL_mem c n s).1 ((hmem s).1 hs); omega
 refine ⟨htab, fun s h0 h1 => ?_, hlen, hmem⟩
 by_cases hs : s ∈ S
 · obtain ⟨x, hx, rfl⟩ := lw_in htab hs
   rw [(lw_mem htab hx).2]
   refine zip_words f n 16 x ?_
   unfold wds at hx
   rw [hS, cds_congr 16 hcc] at hx
   exact hx
 · rw [(lw_pos htab s).2 hs, hz s (fun h => hs ((hmem s).2 h)) h0]
theorem nsum_sub {α : Type} [DecidableEq α] (f : α → Nat) : ∀ (A B : List α), A.Nodup → (∀ a ∈ A, a ∈ B) → nsum f A ≤ nsum f B
 | [], B, _, _ => by simp [nsum]
 | a :: A, B, hn, h => by
  obtain ⟨h1, h2⟩ := List.nodup_cons.1 hn
  have p := List.perm_cons_erase (h a (by simp))
  rw [nsum_perm f p, nsum_cons, nsum_cons]
  have := nsum_sub f A (B.erase a) h2 fun x hx => (List.mem_erase_of_ne (fun e => h1 (by rw [← e]; exact hx))).2 (h x (by simp [hx]))
  omega
theorem cds_sum (c : Nat → Nat) : ∀ k, k ≤ 16 → nsum (fun x => 2 ^ (16 - x.1)) (cds c k) = nx c k * 2 ^ (16 - k)
 | 0, _ => by simp [cds, nsum, nx]
 | k + 1, h => by
  rw [nx_sum c (k + 1) h, sm, ← nx_sum c k (by omega), ← cds_sum c k (by omega), cds, nsum_append, nsum_map]
  refine congrArg (_ + ·) ?_
  have : ∀ m, nsum (fun _ : Nat => 2 ^ (16 - (k + 1))) (List.range m) = m * 2 ^ (15 - k) := fun m => by
   have := nsum_mul (fun _ : Nat => 1) (2 ^ (15 - k)) (List.range m)
   simp only [Nat.one_mul] at this
   rw [show 16 - (k + 1) = 15 - k by omega, this, nsum_const, List.length_range]
  exact this (c k)
theorem table_len {C S : List Int} (h : tabE C S = 0) (c : List Int) (n : Nat) (hall : ∀ s ∈ posL c n, s ∈ S) : LenOk c n (lw (wds C S)) := by
 obtain ⟨h1, h2, h3, h4, h5, h6⟩ := tabE_ok h
 refine ⟨fun s hs => (lw_pos h s).1 (hall s hs), ?_⟩
 have a1 := nsum_sub (fun s => 2 ^ (16 - lw (wds C S) s)) (posL c n) S (posL_nodup c n) hall
 have a2 : nsum (fun s => 2 ^ (16 - lw (wds C S) s)) S = nsum (fun x => 2 ^ (16 - x.2.1)) (wds C S) := by
  have e1 := nsum_map (fun x : Int × Nat × Nat => x.1) (fun s => 2 ^ (16 - lw (wds C S) s)) (wds C S)
  rw [wds_fst h2] at e1
  rw [e1]
  exact nsum_congr _ _ _ fun x hx => by rw [(lw_mem h hx).2]
 have a3 : nsum (fun x : Int × Nat × Nat => 2 ^ (16 - x.2.1)) (wds C S) = nsum (fun x => 2 ^ (16 - x.1)) (cds (cc C) 16) := by
  rw [← wds_snd h2, nsum_map]
 have a4 := cds_sum (cc C) 16 (Nat.le_refl _)
 have a5 := (roomy_iff _).1 h6
 simp at a4
 have : (2 : Nat) ^ 16 = 65536 := by decide
 omega

end Go.Proofs.YtehbjhocgnfpmaaDoor
/- The walk of best.Cost. -/
namespace Go.Proofs.YtehbjhocgnfpmaaDoor
set_option maxRecDepth 100000
open Go.RowKit
set_option linter.unusedVariables false

set_option maxRecDepth 100000
open Go.RowKit
set_option linter.unusedVariables false
structure Mk (c : List Int) (n : Nat) (C S : List Int) : Prop where
 len : Len C 16
 ok : tabE C S = 0
 mem : ∀ s, s ∈ S ↔ s ∈ posL c n
 slen : S.length = (posL c n).length
 best : ∀ l, LenOk c n l → costL c n (lw (wds C S)) ≤ costL c n l
 order : ∀ a b, a ∈ posL c n → b ∈ posL c n → nth c b.toNat < nth c a.toNat → lw (wds C S) a ≤ lw (wds C S) b
 lens : LenOk c n (lw (wds C S))
theorem costL_congr (c : List Int) (n : Nat) (f g : Int → Nat) (h : ∀ s : Int, 0 ≤ s → s < n → f s = g s) : costL c n f = costL c n g := by
 unfold costL
 refine isum_congr _ _ _ fun s hs => ?_
 rw [h s (by omega) (by have := List.mem_range.1 hs; omega)]
theorem bE_ok {c : List Int} (h : bE c = 0) : c.length ≤ 256 ∧ ∀ i, i < c.length → 0 ≤ nth c i ∧ nth c i ≤ 9999 := by
 unfold bE at h
 by_cases h1 : 256 < c.length
 · rw [if_pos h1] at h; cases h
 · rw [if_neg h1] at h
   by_cases h2 : allIn c 0 9999 = true
   · exact ⟨by omega, (allIn_iff c 0 9999).1 h2⟩
   · rw [if_neg h2] at h; cases h
theorem make_good (w0 : World) (c : List Int) (ad : Option Addr) (n cap : Nat) (hv : Sl w0 1 (.slice ad n cap) n (c.map (Value.int .i64))) (hn : n ≤ 9223372036854775807) (hok : bE c = 0) :
 Calls Tryd.prog 47 #[.slice ad n cap] w0 fun e w => ∃ (C S : List Int) (ao : Option Addr) (co : Nat), Mk c n C S ∧ e = .returned (.tuple #[tv C (.slice ao S.length co), .int .i64 0]) ∧ St w0 w [own 3 1 ao S.length co (S.map (Value.int .i64))] := by
 refine (make_any w0 c ad n cap hv hn hok).mono ?_
 rintro e w ⟨f, R, C, S, ao, co, hR, hf, hC, hCi, hSy, rfl, hS⟩
 have hcl : c.length = n := by have := hv.1; simpa using this
 obtain ⟨b1, b2⟩ := bE_ok hok
 rw [hcl] at b1 b2
 obtain ⟨m1, m2, m3, m4, m5⟩ := made_law b1 (fun i hi => (b2 i hi).1) hR f hf
 obtain ⟨t1, t2, t3, t4⟩ := made_table b1 m1 m2 m3 hCi hSy
 have hin : ∀ s ∈ posL c n, 0 ≤ s ∧ s < n := fun s hs => by have := (posL_mem c n s).1 hs; exact ⟨this.1, this.2.1⟩
 have hcost : costL c n (lw (wds C S)) = costL c n f := costL_congr _ _ _ _ t2
 refine ⟨C, S, ao, co, ⟨hC, t1, t4, t3, fun l hl => by rw [hcost]; exact m4 l hl, fun a b ha hb h => ?_, table_len t1 c n fun s hs => (t4 s).2 hs⟩, rfl, hS⟩
 rw [t2 a (hin a ha).1 (hin a ha).2, t2 b (hin b hb).1 (hin b hb).2]
 exact m5 a b ha hb h
theorem build_tab0 (w : World) : (Instr.build 31 #[]).run Tryd.prog w = .ok (tv (List.replicate 16 0) (.slice none 0 0)) w := by kernel_rfl
set_option maxRecDepth 100000 in
set_option maxHeartbeats 4000000 in
theorem make_bad (w0 : World) (c : List Int) (ad : Option Addr) (n cap : Nat) (hv : Sl w0 1 (.slice ad n cap) n (c.map (Value.int .i64))) (hn : n ≤ 9223372036854775807) (hbad : bE c ≠ 0) :
 Calls Tryd.prog 47 #[.slice ad n cap] w0 fun e w => e = .returned (.tuple #[tv (List.replicate 16 0) (.slice none 0 0), .int .i64 (bE c)]) ∧ Ext w0 w := by
 have hS := St.start w0
 have HCK := hid (fun (w : World) (hE : Ext w0 w) => bcheck_any w c ad n cap (hv.ext hE) hn)
 obtain ⟨B, hB⟩ : ∃ B, bE c = B := ⟨_, rfl⟩
 rw [hB] at HCK hbad ⊢
 clear hB
 go_enter Tryd.func47, Tryd.ntmps47
 repeat' (first
  | ((with_reducible apply gt9 _ (.call ⟨.value (.func 45), _, _⟩)); refine wpl_call (f := 45) Tryd.call45 kr9 ?_; refine ⟨_, (HCK.out _ hS.1), ?_⟩; rintro e w ⟨rfl, hE2⟩; replace hS := hS.ext hE2; clear hE2; refine ⟨_, rfl, ?_⟩; refine put_move ?_; go_step) | ((first | (with_reducible apply mv9) | (with_reducible apply as9)); (first | go_big_want | go_step); go_step) | ((with_reducible apply gs9 22); (refine wvv9 (V.neq rfl rfl) ?_; go_step)) | ((with_reducible apply gs9 2); (refine wl9 ?_; apply wp_allocP (o := ⟨some 2, _, _, _, _, _⟩) hS 31 rfl _ zp31; clear hS; intro g2 w hS; refine put_move ?_; go_step)) | ((fail_if_success with_reducible apply ga9); go_step))
 repeat' (first
  | ((with_reducible apply gs9 23); refine wvv9 (V.build (vs := []) rfl build_tab0) ?_; go_step) | ((first | (with_reducible apply mv9) | (with_reducible apply as9)); (first | go_big_want | go_step); go_step) | ((with_reducible apply gt9 _ (.store 31 _ _)); (refine wl9 ?_; apply wp_storePP hS 31 _ _ rfl _ rfl 17 (row_of rfl) _ _; (case hp => exact pl9); (case hy => rfl); (case hn => (repeat (first | exact Pre.nil | (apply Pre.ints; (case hn => (first | (with_reducible assumption) | exact Len.rep | exact Len.set (by with_reducible assumption) | exact Len.set Len.rep | exact Len.set (Len.set Len.rep))); (case h => omega); (case hm => rfl)) | apply Pre.val))); (case hn' => (repeat (first | exact Pre.nil | (apply Pre.ints; (case hn => (first | (with_reducible assumption) | exact Len.rep | exact Len.set (by with_reducible assumption) | exact Len.set Len.rep | exact Len.set (Len.set Len.rep))); (case h => omega); (case hm => rfl)) | apply Pre.val))); (case hv => rfl); (case hd => exact rfl); clear hS; intro w hS)) | ((fail_if_success with_reducible apply ga9); go_step))
 refine ret_all (xs := [_, _]) rfl (.cons (OneRes.prt hS rfl (row_of (n := 17) rfl) pl9 (by (repeat (first | exact Pre.nil | (apply Pre.ints; (case hn => (first | (with_reducible assumption) | exact Len.rep | exact Len.set (by with_reducible assumption) | exact Len.set Len.rep | exact Len.set (Len.set Len.rep))); (case h => omega); (case hm => rfl)) | apply Pre.val)))) (.cons (OneRes.tmp rfl) (.nil))) (by simp) rfl ?_
 exact ⟨rfl, hS.1⟩
theorem zero_len : Len (List.replicate 16 (0 : Int)) 16 := List.length_replicate
theorem zero_tab : tabE (List.replicate 16 0) [] = 0 := by decide

set_option maxRecDepth 100000
open Go.RowKit
set_option linter.unusedVariables false

end Go.Proofs.YtehbjhocgnfpmaaDoor
/- best.Make, whatever comes. -/
namespace Go.Proofs.YtehbjhocgnfpmaaDoor
open Go.RowKit
set_option linter.unusedVariables false
theorem make_both (w0 : World) (c : List Int) (ad : Option Addr) (n cap : Nat) (hv : Sl w0 1 (.slice ad n cap) n (c.map (Value.int .i64))) (hn : n ≤ 9223372036854775807) :
 Calls Tryd.prog 47 #[.slice ad n cap] w0 fun e w => ∃ (C S : List Int) (ao : Option Addr) (m co : Nat), Len C 16 ∧ S.length = m ∧ m ≤ 256 ∧ tabE C S = 0 ∧ (bE c = 0 → Mk c n C S) ∧ e = .returned (.tuple #[tv C (.slice ao m co), .int .i64 (bE c)]) ∧ St w0 w [own 3 1 ao m co (S.map (Value.int .i64))] := by
 by_cases hb : bE c = 0
 · refine (make_good w0 c ad n cap hv hn hb).mono ?_
   rintro e w ⟨C, S, ao, co, hM, rfl, hS⟩
   exact ⟨C, S, ao, S.length, co, hM.len, rfl, (tabE_ok hM.ok).2.2.1, hM.ok, fun _ => hM, by rw [hb], hS⟩
 · refine (make_bad w0 c ad n cap hv hn hb).mono ?_
   rintro e w ⟨rfl, hE⟩
   exact ⟨_, [], none, 0, 0, zero_len, rfl, by omega, zero_tab, fun h => absurd h hb, rfl, (St.of_ext hE).nil _ _⟩

end Go.Proofs.YtehbjhocgnfpmaaDoor
/- The walk of seg.Counts. -/
namespace Go.Proofs.YtehbjhocgnfpmaaDoor
open Go.RowKit
set_option maxRecDepth 100000
set_option linter.unusedVariables false
section
variable {P : Program} {Q : Exit → Act → World → Prop} {a : Act} {W w : World} {c : Code}
end

set_option maxRecDepth 100000
set_option linter.unusedVariables false
theorem tabsRaw (m0 m1 m2 m3 m4 m5 m6 m7 m8 m9 m10 m11 m12 m13 m14 m15 q0 q1 q2 q3 q4 q5 q6 q7 q8 q9 q10 q11 q12 q13 q14 q15 : Int) (a b : Option Addr) (n c k d : Nat) (w : World) : (Instr.build 33 #[(0, tv [m0, m1, m2, m3, m4, m5, m6, m7, m8, m9, m10, m11, m12, m13, m14, m15] (.slice a n c)), (1, tv [q0, q1, q2, q3, q4, q5, q6, q7, q8, q9, q10, q11, q12, q13, q14, q15] (.slice b k d))]).run Tryd.prog w = .ok (.agg (pcells [.ints [m0, m1, m2, m3, m4, m5, m6, m7, m8, m9, m10, m11, m12, m13, m14, m15], .val (.slice a n c), .ints [q0, q1, q2, q3, q4, q5, q6, q7, q8, q9, q10, q11, q12, q13, q14, q15], .val (.slice b k d)]).toArray) w := by kernel_rfl
theorem tabsBuild (l l2 : List Int) (hl : l.length = 16) (hl2 : l2.length = 16) (a b : Option Addr) (n c k d : Nat) (w : World) : (Instr.build 33 #[(0, tv l (.slice a n c)), (1, tv l2 (.slice b k d))]).run Tryd.prog w = .ok (.agg (pcells [.ints l, .val (.slice a n c), .ints l2, .val (.slice b k d)]).toArray) w := by
 match l, hl, l2, hl2 with
 | [m0, m1, m2, m3, m4, m5, m6, m7, m8, m9, m10, m11, m12, m13, m14, m15], _, [q0, q1, q2, q3, q4, q5, q6, q7, q8, q9, q10, q11, q12, q13, q14, q15], _ => exact tabsRaw _ _ _ _ _ _ _ _ _ _ _ _ _ _ _ _ _ _ _ _ _ _ _ _ _ _ _ _ _ _ _ _ a b n c k d w
def FitGives (w0 : World) (F R : List Int) (e : Ending) (w : World) : Prop :=
 ∃ (C1 S1 C2 S2 : List Int) (a1 a2 : Option Addr) (m1 k1 m2 k2 : Nat) (b : Bool), Len C1 16 ∧ Len C2 16 ∧ S1.length = m1 ∧ S2.length = m2 ∧ m1 ≤ 256 ∧ m2 ≤ 256 ∧ tabE C1 S1 = 0 ∧ tabE C2 S2 = 0 ∧ (bE (cnt F) = 0 → Mk (cnt F) 256 C1 S1) ∧ (bE (cnt R) = 0 → Mk (cnt R) 256 C2 S2) ∧ (b = true ↔ bE (cnt F) = 0 ∧ bE (cnt R) = 0) ∧
  e = .returned (.tuple #[.agg (pcells [.ints C1, .val (.slice a1 m1 k1), .ints C2, .val (.slice a2 m2 k2)]).toArray, .bool b]) ∧ St w0 w [own 3 1 a1 m1 k1 (S1.map (Value.int .i64)), own 3 1 a2 m2 k2 (S2.map (Value.int .i64))]
set_option maxHeartbeats 8000000 in
theorem fitting_any (w0 : World) (ad : Option Addr) (n c : Nat) (l : List Int) (every : Nat) (hn : n ≤ 1048576) (he : every ≤ 1048576) (hv : Sl w0 64 (.slice ad n c) n (l.map (Value.int .i64))) :
 Calls Tryd.prog 22 #[.slice ad n c, .int .i64 every] w0 (FitGives w0 (frF l (pts n every)) (frR l (pts n every))) := by
 have hS := St.start w0
 obtain ⟨F, hF⟩ : ∃ F, frF l (pts n every) = F := ⟨_, rfl⟩
 obtain ⟨R, hR⟩ : ∃ F, frR l (pts n every) = F := ⟨_, rfl⟩
 rw [hF, hR]
 have HF := hid hF
 have HR := hid hR
 clear hF hR
 obtain ⟨E1, hE1⟩ : ∃ E, bE (cnt F) = E := ⟨_, rfl⟩
 obtain ⟨E2, hE2⟩ : ∃ E, bE (cnt R) = E := ⟨_, rfl⟩
 have HE1 := hid hE1
 have HE2 := hid hE2
 clear hE1 hE2
 go_enter Tryd.func22, Tryd.ntmps22
 repeat' (first
  | ((with_reducible apply gs9 15); refine wpl_call (f := 46) Tryd.call46 kr9 ?_; refine ⟨_, (frameCounts_any _ ad n c l every hn he (hv.ext hS.1)), ?_⟩; rintro e w ⟨g1, g2, rfl, hS2⟩; rw [HF.out, HR.out] at hS2; replace hS := call_two hS hS2; clear hS2; refine ⟨_, rfl, ?_⟩; refine put_move ?_; go_step) | ((with_reducible apply gs9 20); refine wpl_call (f := 47) Tryd.call47 kr9 ?_; refine ⟨_, (make_both _ (cnt F) (some ⟨g1, 0, none⟩) 256 256 (hS.sl pl9) (by decide)), ?_⟩; rintro e w ⟨C1, S1, a1, m1, k1, hC1, hm1, hb1, ht1, hM1, rfl, hS2⟩; rw [HE1.out]; replace hS := hS.call1 hS2; clear hS2; have HM1 := hid hM1; have HT1 := hid ht1; clear hM1 ht1; refine ⟨_, rfl, ?_⟩; refine put_move ?_; go_step) | ((with_reducible apply gs9 25); refine wpl_call (f := 47) Tryd.call47 kr9 ?_; refine ⟨_, (make_both _ (cnt R) (some ⟨g2, 0, none⟩) 256 256 (hS.sl pl9) (by decide)), ?_⟩; rintro e w ⟨C2, S2, a2, m2, k2, hC2, hm2, hb2, ht2, hM2, rfl, hS2⟩; rw [HE2.out]; replace hS := hS.call1 hS2; clear hS2; have HM2 := hid hM2; have HT2 := hid ht2; clear hM2 ht2; refine ⟨_, rfl, ?_⟩; refine put_move ?_; go_step) | ((first | (with_reducible apply mv9) | (with_reducible apply as9)); (first | go_big_want | go_step); go_step) | ((with_reducible apply gt9 _ (.extract _ _)); (refine wvv9 (V.extract rfl rfl) ?_; go_step)) | ((with_reducible apply gs9 4); (refine wl9 ?_; apply wp_allocP (o := ⟨some 4, _, _, _, _, _⟩) hS 33 rfl _ zp33; clear hS; intro g4 w hS; refine put_move ?_; go_step)) | ((with_reducible apply gs9 8); (refine wl9 ?_; apply wp_allocP (o := ⟨some 8, _, _, _, _, _⟩) hS 31 rfl _ zp31; clear hS; intro g8 w hS; refine put_move ?_; go_step)) | ((with_reducible apply gt9 _ (.store 31 _ _)); (refine wl9 ?_; apply wp_storePP hS 31 _ _ rfl _ rfl 17 (row_of rfl) _ _; (case hp => exact pl9); (case hy => rfl); (case hn => (repeat (first | exact Pre.nil | (apply Pre.ints; (case hn => (first | (with_reducible assumption) | exact Len.rep | exact Len.set (by with_reducible assumption) | exact Len.set Len.rep | exact Len.set (Len.set Len.rep))); (case h => omega); (case hm => rfl)) | apply Pre.val))); (case hn' => (repeat (first | exact Pre.nil | (apply Pre.ints; (case hn => (first | (with_reducible assumption) | exact Len.rep | exact Len.set (by with_reducible assumption) | exact Len.set Len.rep | exact Len.set (Len.set Len.rep))); (case h => omega); (case hm => rfl)) | apply Pre.val))); (case hv => rfl); (case hd => exact rfl); clear hS; intro w hS)) | ((with_reducible apply gs9 10); (refine wl9 ?_; apply wp_allocP (o := ⟨some 10, _, _, _, _, _⟩) hS 31 rfl _ zp31; clear hS; intro g10 w hS; refine put_move ?_; go_step)) | ((fail_if_success with_reducible apply ga9); go_step))
 repeat' (first
  | ((with_reducible apply gs9 30); refine wplV (.agg (pcells [.ints C1, .val (.slice a1 m1 k1), .ints C2, .val (.slice a2 m2 k2)]).toArray) (V.build (vs := [(0, tv C1 (.slice a1 m1 k1)), (1, tv C2 (.slice a2 m2 k2))]) rfl (tabsBuild C1 C2 hC1.out hC2.out _ _ _ _ _ _)) kr9 ?_; go_step) | go_skip | ((first | (with_reducible apply mv9) | (with_reducible apply as9)); (first | go_big_want | go_step); go_step) | ((with_reducible apply gt9 _ (.pick _ _ _)); first | (refine wplPickT rfl kr9 ?_; go_step) | (refine wplPickF rfl kr9 ?_; go_step)) | ((with_reducible apply gs9 32); (refine wplD _ (V.eql rfl rfl) kr9 (fun hB => ?_) (fun hB => ?_) <;> (try (have hF : False := (by omega); cases hF)) <;> go_step)) | ((with_reducible apply gt9 _ (.binOp .eql 25 _ _ _)); (refine wvv9 (V.eql rfl rfl) ?_; go_step)) | ((with_reducible apply gt9 _ (.load 31 _)); (refine wl9 ?_; apply wp_loadPP hS 31 _ rfl _ _ rfl 17 (row_of rfl) _; (case hp => exact pl9); (case hi => (repeat (first | (apply AtP.head; (repeat (first | exact Pre.nil | (apply Pre.ints; (case hn => (first | (with_reducible assumption) | exact Len.rep | exact Len.set (by with_reducible assumption) | exact Len.set Len.rep | exact Len.set (Len.set Len.rep))); (case h => omega); (case hm => rfl)) | apply Pre.val))) | (apply AtP.skipI; (case hn => (first | (with_reducible assumption) | exact Len.rep | exact Len.set (by with_reducible assumption) | exact Len.set Len.rep | exact Len.set (Len.set Len.rep))); (case h => omega); (case ho => rfl)) | apply AtP.skipV))); refine put_move ?_; go_step)) | ((with_reducible apply gt9 _ (.store 33 _ _)); (refine wl9 ?_; apply wp_storePP hS 33 _ _ rfl _ rfl 34 (row_of rfl) _ _; (case hp => exact pl9); (case hy => rfl); (case hn => (repeat (first | exact Pre.nil | (apply Pre.ints; (case hn => (first | (with_reducible assumption) | exact Len.rep | exact Len.set (by with_reducible assumption) | exact Len.set Len.rep | exact Len.set (Len.set Len.rep))); (case h => omega); (case hm => rfl)) | apply Pre.val))); (case hn' => (repeat (first | exact Pre.nil | (apply Pre.ints; (case hn => (first | (with_reducible assumption) | exact Len.rep | exact Len.set (by with_reducible assumption) | exact Len.set Len.rep | exact Len.set (Len.set Len.rep))); (case h => omega); (case hm => rfl)) | apply Pre.val))); (case hv => rfl); (case hd => exact rfl); clear hS; intro w hS)) | ((fail_if_success with_reducible apply ga9); go_step))
 all_goals
  refine ret_all (xs := [_, _]) rfl (.cons (OneRes.prt hS rfl (row_of (n := 34) rfl) pl9 (by (repeat (first | exact Pre.nil | (apply Pre.ints; (case hn => (first | (with_reducible assumption) | exact Len.rep | exact Len.set (by with_reducible assumption) | exact Len.set Len.rep | exact Len.set (Len.set Len.rep))); (case h => omega); (case hm => rfl)) | apply Pre.val)))) (.cons (OneRes.tmp rfl) (.nil))) (by simp) rfl ?_
  refine ⟨C1, S1, C2, S2, a1, a2, m1, k1, m2, k2, _, hC1, hC2, hm1, hm2, hb1, hb2, HT1.out, HT2.out, HM1.out, HM2.out, ?_, rfl, hS.sub sb9⟩
  rw [HE1.out, HE2.out]
  simp <;> omega

set_option maxRecDepth 100000
set_option linter.unusedVariables false
theorem cnt_one (a : Nat) (f : Nat → Int) : ∀ n, isum (fun s => (if s = a then 1 else 0) * f s) (List.range n) = if a < n then f a else 0
 | 0 => by simp [isum]
 | n + 1 => by
  have ih := cnt_one a f n
  unfold isum at ih ⊢
  rw [List.range_succ, List.map_append, List.sum_append, ih]
  simp only [List.map_cons, List.map_nil, List.sum_cons, List.sum_nil]
  by_cases h : n = a
  · subst h; simp
  · rw [if_neg h]
    by_cases h2 : a < n
    · rw [if_pos h2, if_pos (by omega)]; simp
    · rw [if_neg h2, if_neg (by omega)]; simp
theorem one_cost (a : Nat) (ha : a < 256) (f : Int → Nat) : costL (cnt [(a : Int)]) 256 f = f (a : Int) := by
 have h := cnt_one a (fun s => ((f (s : Int) : Nat) : Int)) 256
 rw [if_pos ha] at h
 rw [← h]
 unfold costL isum
 congr 1
 refine List.map_congr_left fun s hs => ?_
 rw [cnt_nth _ (List.mem_range.1 hs), List.count_singleton]
 by_cases e : s = a
 · subst e; simp
 · rw [if_neg e, if_neg (by simp; omega)]; simp
theorem one_pos (a : Nat) (ha : a < 256) (s : Int) : s ∈ posL (cnt [(a : Int)]) 256 ↔ s = a := by
 rw [posL_mem]
 constructor
 · rintro ⟨h1, h2, h3⟩
   rw [cnt_nth _ (by omega), List.count_singleton] at h3
   by_cases e : (((s.toNat : Nat) : Int)) = (a : Int)
   · omega
   · rw [if_neg (by simp; omega)] at h3; simp at h3
 · rintro rfl
   refine ⟨by omega, by omega, ?_⟩
   rw [cnt_nth _ (by omega), List.count_singleton]
   simp
theorem one_posL (a : Nat) (ha : a < 256) : posL (cnt [(a : Int)]) 256 = [(a : Int)] := by
 have h1 := one_pos a ha
 have h2 : (posL (cnt [(a : Int)]) 256).Nodup := by
  unfold posL
  exact List.Pairwise.map (R := fun a b => a ≠ b) _ (fun x y h e => h (by omega)) (List.Pairwise.filter _ List.nodup_range)
 generalize posL (cnt [(a : Int)]) 256 = P at h1 h2
 match P, h1, h2 with
 | [], h1, _ => exact absurd ((h1 a).2 rfl) (by simp)
 | [x], h1, _ => rw [(h1 x).1 (by simp)]
 | x :: y :: r, h1, h2 =>
  have e1 := (h1 x).1 (by simp)
  have e2 := (h1 y).1 (by simp)
  rw [e1, e2] at h2
  simp at h2
theorem one_word {a : Nat} (ha : a < 256) {C S : List Int} (h : Mk (cnt [(a : Int)]) 256 C S) : symW (wds C S) (a : Int) = some (1, 0) := by
 have hp := one_posL a ha
 have hb := h.best (fun _ => 1) ⟨by rw [hp]; intro s hs; exact ⟨Nat.le_refl _, by decide⟩, by rw [hp]; simp [nsum]⟩
 rw [one_cost a ha, one_cost a ha] at hb
 have ht := h.lens.top a (by rw [hp]; simp)
 have hG := wds_good h.ok
 unfold lw at hb ht
 cases hs : symW (wds C S) (a : Int) with
 | none => rw [hs] at ht; simp at ht
 | some y =>
  obtain ⟨m, cd⟩ := y
  rw [hs] at hb ht
  dsimp only at hb ht
  obtain rfl : m = 1 := by omega
  have := hG.long _ (symW_mem hs)
  dsimp only at this
  obtain rfl : cd = 0 := by omega
  rfl
def blk3 : List Int := (List.replicate 64 0).set 0 3
theorem blk3_len : blk3.length = 64 := by unfold blk3; rw [List.length_set, List.length_replicate]
theorem blk3_fr : frF blk3 (pts 1 0) = [2] ∧ frR blk3 (pts 1 0) = [0] := by decide +kernel
theorem blk3_ok : blkE blk3 1 = 0 := by decide +kernel
theorem blk3_tk : tfl blk3 0 1 = [((2, 2, 3), true), ((0, 0, 0), false)] := by decide +kernel
theorem blk3_b : bE (cnt [2]) = 0 ∧ bE (cnt [0]) = 0 := by decide +kernel
theorem blk3_enc {C1 S1 C2 S2 : List Int} (h1 : Mk (cnt [2]) 256 C1 S1) (h2 : Mk (cnt [0]) 256 C2 S2) : segE C1 S1 C2 S2 blk3 1 = 0 ∧ (segB C1 S1 C2 S2 blk3 1).length = 1 := by
 have w1 := one_word (a := 2) (by decide) h1
 have w2 := one_word (a := 0) (by decide) h2
 have hw : words (wds C1 S1) (wds C2 S2) (tfl blk3 0 1) := by
  rw [blk3_tk]
  intro x hx
  simp only [List.mem_cons, List.not_mem_nil, or_false] at hx
  rcases hx with rfl | rfl
  · show (symW (wds C1 S1) 2).isSome = true
    rw [show (2 : Int) = ((2 : Nat) : Int) from rfl, w1]; rfl
  · show (symW (wds C2 S2) 0).isSome = true
    rw [show (0 : Int) = ((0 : Nat) : Int) from rfl, w2]; rfl
 have he := enc_all (wds C1 S1) (wds C2 S2) (tfl blk3 0 1) [] hw
 have hbits : (tfl blk3 0 1).flatMap (tkBits (wds C1 S1) (wds C2 S2)) = [false, true, true, false] := by
  rw [blk3_tk]
  simp only [List.flatMap_cons, List.flatMap_nil]
  have e1 : wb (wds C1 S1) 2 = [false] := by unfold wb; rw [show (2 : Int) = ((2 : Nat) : Int) from rfl, w1]; rfl
  have e2 : wb (wds C2 S2) 0 = [false] := by unfold wb; rw [show (0 : Int) = ((0 : Nat) : Int) from rfl, w2]; rfl
  unfold tkBits
  dsimp only
  rw [if_pos rfl, if_neg (by decide), e1, e2]
  rfl
 have ht : tbE C1 S1 C2 S2 = 0 := by unfold tbE; rw [if_pos h1.ok]; exact h2.ok
 have h0 : segE C1 S1 C2 S2 blk3 1 = 0 := by unfold segE; rw [if_pos ht, if_pos blk3_ok, he]
 refine ⟨h0, ?_⟩
 unfold segB segBits
 rw [if_pos h0, he, hbits]
 rfl
set_option maxHeartbeats 8000000 in
theorem blocked_any (w0 : World) : Calls Tryd.prog 15 #[] w0 fun e w => e = .returned (.bool true) ∧ Ext w0 w := by
 have hS := St.start w0
 have HL := hid blk3_len
 go_enter Tryd.func15, Tryd.ntmps15
 repeat' (first
  | ((with_reducible apply gs9 7); refine wl9 ?_; refine wp_buildSlice1 (o := ⟨some 7, _, _, _, _, _⟩) hS 22 1 _ rfl 52 64 512 el22 _ _ (Parts.agg (l := blk3.map (Value.int .i64)) rfl (by rw [List.length_map]; exact HL.out) Parts.nil) rfl (by decide) (by decide) ?_; clear hS; intro g7 w hS; rw [List.append_nil] at hS; have hsl7 := hS.slBlk (n := 1) (s := 64) Pull.head (by rw [List.length_map]; exact HL.out) (by decide); refine put_move ?_; go_step) | ((with_reducible apply gs9 10); refine wpl_call (f := 22) Tryd.call22 kr9 ?_; refine ⟨_, (fitting_any _ (some ⟨g7, 0, none⟩) 1 1 blk3 0 (by decide) (by decide) hsl7), ?_⟩; rintro e w ⟨C1, S1, C2, S2, a1, a2, m1, k1, m2, k2, b, hC1, hC2, hm1, hm2, hb1, hb2, ht1, ht2, hM1, hM2, hb, rfl, hS2⟩; rw [blk3_fr.1] at hM1 hb; rw [blk3_fr.2] at hM2 hb; obtain rfl : b = true := hb.2 blk3_b; have HK := hid (blk3_enc (hM1 blk3_b.1) (hM2 blk3_b.2)); replace hS := call_two hS hS2; clear hS2 hM1 hM2 hb ht1 ht2; refine ⟨_, rfl, ?_⟩; refine put_move ?_; go_step) | ((with_reducible apply gs9 16); refine wpl_call (f := 18) Tryd.call18 kr9 ?_; refine ⟨_, (segEncode_any _ C1 C2 S1 S2 a1 a2 m1 m2 k1 k2 hC1 hC2 (hS.sl pl9) (hS.sl pl9) (by omega) (by omega) (some ⟨g7, 0, none⟩) 1 1 blk3 (by decide) (by have hx := hS.slBlk (n := 1) (s := 64) (cs := blk3.map (Value.int .i64)) pl9 (by rw [List.length_map]; exact HL.out) (by decide); exact hx)), ?_⟩; rintro e w ⟨ao, co, mo, hmo, rfl, hS2⟩; rw [HK.out.1]; rw [HK.out.2] at hmo; subst hmo; replace hS := hS.call1 hS2; clear hS2; refine ⟨_, rfl, ?_⟩; refine put_move ?_; go_step) | ((first | (with_reducible apply mv9) | (with_reducible apply as9)); (first | go_big_want | go_step); go_step) | ((with_reducible apply gs9 6); (refine wvv9 (V.build (vs := [(0, _)]) rfl (bl52_0 _)) ?_; go_step)) | ((with_reducible apply gt9 _ (.extract _ _)); (refine wvv9 (V.extract rfl rfl) ?_; go_step)) | ((with_reducible apply gs9 2); (refine wl9 ?_; apply wp_allocP (o := ⟨some 2, _, _, _, _, _⟩) hS 33 rfl _ zp33; clear hS; intro g2 w hS; refine put_move ?_; go_step)) | ((with_reducible apply gt9 _ (.store 33 _ _)); (refine wl9 ?_; apply wp_storePP hS 33 _ _ rfl _ rfl 34 (row_of rfl) _ _; (case hp => exact pl9); (case hy => rfl); (case hn => (repeat (first | exact Pre.nil | (apply Pre.ints; (case hn => (first | (with_reducible assumption) | exact Len.rep | exact Len.set (by with_reducible assumption) | exact Len.set Len.rep | exact Len.set (Len.set Len.rep))); (case h => omega); (case hm => rfl)) | apply Pre.val))); (case hn' => (repeat (first | exact Pre.nil | (apply Pre.ints; (case hn => (first | (with_reducible assumption) | exact Len.rep | exact Len.set (by with_reducible assumption) | exact Len.set Len.rep | exact Len.set (Len.set Len.rep))); (case h => omega); (case hm => rfl)) | apply Pre.val))); (case hv => rfl); (case hd => exact rfl); clear hS; intro w hS)) | ((with_reducible apply gt9 _ (.load 33 _)); (refine wl9 ?_; apply wp_loadPP hS 33 _ rfl _ _ rfl 34 (row_of rfl) _; (case hp => exact pl9); (case hi => (repeat (first | (apply AtP.head; (repeat (first | exact Pre.nil | (apply Pre.ints; (case hn => (first | (with_reducible assumption) | exact Len.rep | exact Len.set (by with_reducible assumption) | exact Len.set Len.rep | exact Len.set (Len.set Len.rep))); (case h => omega); (case hm => rfl)) | apply Pre.val))) | (apply AtP.skipI; (case hn => (first | (with_reducible assumption) | exact Len.rep | exact Len.set (by with_reducible assumption) | exact Len.set Len.rep | exact Len.set (Len.set Len.rep))); (case h => omega); (case ho => rfl)) | apply AtP.skipV))); refine put_move ?_; go_step)) | ((fail_if_success with_reducible apply ga9); go_step))
 repeat' (first
  | ((first | (with_reducible apply mv9) | (with_reducible apply as9)); (first | go_big_want | go_step); go_step) | ((with_reducible apply gt9 _ (.pick _ _ _)); (refine wplPickT rfl kr9 ?_; go_step)) | ((with_reducible apply gs9 22); (refine wplD _ (V.eql rfl rfl) kr9 (fun hB => ?_) (fun hB => ?_) <;> (try (have hF : False := (by omega); cases hF)) <;> go_step)) | ((with_reducible apply gt9 _ (.call ⟨.builtin .len, _, _⟩)); (refine wvv9 (V.len Tryd.underlying34 rfl) ?_; go_step)) | ((with_reducible apply gt9 _ (.binOp .eql 3 _ _ _)); (refine wvv9 (V.eql rfl rfl) ?_; go_step)) | ((fail_if_success with_reducible apply ga9); go_step))
 all_goals (try (have hF : False := (by omega); cases hF))
 all_goals (go_ret; exact ⟨rfl, hS.1⟩)

def BSl (w : World) (v : Value) (xs : List Int) : Prop := Sl w 1 v xs.length (xs.map (Value.int .u8))
theorem BSl.open {w : World} {v : Value} {xs : List Int} (h : BSl w v xs) : ∃ a c, v = .slice a xs.length c ∧ xs.length ≤ c ∧ c ≤ 9223372036854775807 ∧
 (∀ i, i < xs.length → ∃ b off, a = some ⟨b, off, none⟩ ∧ ∀ k, k < xs.length → w.cell? ⟨b, off + k, none⟩ = some (.int .u8 (nth xs k))) := by
 obtain ⟨_, a, c, hv, h1, h2, h3⟩ := h
 refine ⟨a, c, hv, h1, by unfold maxLen at h2; exact h2, fun i hi => ?_⟩
 rcases h3 with h3 | ⟨b, off, ha, hc⟩
 · omega
 · refine ⟨b, off, ha, fun k hk => ?_⟩
   rw [hc k (by omega), List.getElem?_map, List.getElem?_eq_getElem hk]
   simp [nth, List.getD, List.getElem?_eq_getElem hk]
set_option maxHeartbeats 1000000 in
theorem eqByte_any (w : World) (va vb : Value) (xs ys : List Int) (ha : BSl w va xs) (hb : BSl w vb ys) :
 Calls Tryd.prog 26 #[va, vb] w fun e w' => e = .returned (.bool (decide (xs = ys))) ∧ w = w' := by
 obtain ⟨a, c, rfl, hc1, hc2, ha⟩ := ha.open
 obtain ⟨b, d, rfl, hd1, hd2, hb⟩ := hb.open
 by_cases hl : xs.length = ys.length
 · have hl' : ((xs.length : Int) != (ys.length : Int)) = false := by simp [hl]
   have HL := hid hl
   clear hl
   go_enter Tryd.func26, Tryd.ntmps26
   go_wp2_with fail
   go_loopg [14] xs.length (fun gk xv wr => ∃ (i : Nat), gk + i = xs.length ∧ xv = .int .i64 i ∧ xs.take i = ys.take i ∧ wr = w)
   case atStart => exact ⟨0, rfl, rfl, rfl, rfl⟩
   case round =>
    obtain ⟨i, hi, rfl, hpre, rfl⟩ := hrel
    have hi' : i ≤ xs.length := by omega
    have HI := hid hi
    have HP := hid hpre
    clear hi hpre
    by_cases hlt : i < xs.length
    · obtain ⟨ba, oa, rfl, hca⟩ := ha i hlt
      have hlt2 : i < ys.length := by have := HL.out; omega
      obtain ⟨bb, ob, rfl, hcb⟩ := hb i hlt2
      have h1 := hca i hlt
      have h2 := hcb i hlt2
      clear ha hb hca hcb
      by_cases he : nth xs i = nth ys i
      · have h3 : (nth xs i != nth ys i) = false := by simp [he]
        have HT := hid (take_eq_succ xs ys i hlt hlt2 HP.out he)
        clear he
        have HM : Hid (gk - 1 + (i + 1) = xs.length) := by have := HI.out; unfold Hid; omega
        have HG : Hid (gk - 1 < gk) := by have := HI.out; unfold Hid; omega
        go_wp2_with fail
        go_roundg (gk - 1)
        case measure => exact HG.out
        case rel => exact ⟨i + 1, HM.out, by go_num, HT.out, rfl⟩
      · have h3 : (nth xs i != nth ys i) = true := by simp [he]
        have HN : Hid (decide (xs = ys) = false) := by
         unfold Hid; rw [decide_eq_false_iff_not]; intro h; exact he (by rw [h])
        clear he
        go_wp2_with fail
        go_ret
        exact ⟨ret_bool HN.out.symm, rfl⟩
    · have HN : Hid (decide (xs = ys) = true) := by
       unfold Hid
       have h1 := HP.out
       have h2 := HL.out
       rw [List.take_of_length_le (by omega), List.take_of_length_le (by omega)] at h1
       simp [h1]
      clear ha hb
      go_wp2_with fail
      go_ret
      exact ⟨ret_bool HN.out.symm, rfl⟩
 · have hl' : ((xs.length : Int) != (ys.length : Int)) = true := by simp; omega
   have HN : Hid (decide (xs = ys) = false) := by
    unfold Hid; rw [decide_eq_false_iff_not]; intro h; exact hl (by rw [h])
   clear hl ha hb
   go_enter Tryd.func26, Tryd.ntmps26
   go_wp2_with fail
   go_ret
   exact ⟨ret_bool HN.out.symm, rfl⟩

end Go.Proofs.YtehbjhocgnfpmaaDoor
/- Opening the arguments of a law: what their readings say of the values and of memory. -/
namespace Go.Proofs.YtehbjhocgnfpmaaDoor
open Go.ChangeShapes Go.WideShapes Go.ChangeAt Go.RowKit
theorem op_int {H : Type} {enc : TypeId × Value → H} {P : Program} {W : World} {base : Nat} {t : TypeId} {v : Value} {d : DataW H} {p : List MemPlace} (ht : P.underlying t = some (.int .i64))
 (ho : Value.okWide P W .any base t v) (h : DataW.Trod enc P W 0 (fun _ => true) true t v d p) : ∃ n : Int, v = .int .i64 n ∧ -9223372036854775808 ≤ n ∧ n ≤ 9223372036854775807 := by
 obtain ⟨n, rfl, rfl, rfl, wn⟩ := open_int ht ho h
 refine ⟨n, rfl, ?_⟩
 have h := wn
 simp only [Lit.wf, Bool.and_eq_true, decide_eq_true_eq] at h
 have h1 : IntKind.i64.min = -9223372036854775808 := rfl
 have h2 : IntKind.i64.max = 9223372036854775807 := rfl
 omega

end Go.Proofs.YtehbjhocgnfpmaaDoor
/- Opening slices of whatever is made of integers alone: numbers, arrays of them, structs of them. -/
namespace Go.Proofs.YtehbjhocgnfpmaaDoor
open Go.ChangeShapes Go.WideShapes Go.ChangeAt Go.RowKit Go.Deep
def allInts (P : Program) (k : IntKind) : Nat → TypeId → Bool
 | 0, _ => false
 | d + 1, t => match P.underlying t with
  | some (.int k') => decide (k' = k) && P.cellsOf t == 1
  | some (.array n e) => allInts P k d e && P.cellsOf t == n * P.cellsOf e
  | some (.struct fs) => fs.toList.all (fun f => allInts P k d f.type) && (List.range (P.cellsOf t)).all fun j => fs.toList.any fun f => decide (f.offset ≤ j) && decide (j < f.offset + P.cellsOf f.type)
  | _ => false
theorem trod_ints {H : Type} {enc : TypeId × Value → H} {P : Program} {W : World} {base : Nat} {sp : Nat → Bool} {held : Bool} (k : IntKind) : ∀ (d : Nat) (t : TypeId), allInts P k d t = true → ∀ (fuel : Nat) (cs : List Value) (x : DataW H × List MemPlace),
 DataW.trod enc P W base sp held fuel t cs = some x → cs.length = P.cellsOf t ∧ ∀ j, j < cs.length → ∃ n, cs[j]? = some (.int k n) ∧ (Lit.int k n).wf = true := by
 intro d
 induction d with
 | zero => intro t h; simp [allInts] at h
 | succ d ih =>
  intro t ht fuel cs x h
  unfold allInts at ht
  split at ht
  · rename_i k' hu
    simp only [Bool.and_eq_true, decide_eq_true_eq, beq_iff_eq] at ht
    obtain ⟨rfl, hc⟩ := ht
    obtain ⟨n, rfl, _, hw⟩ := DataW.trod_int hu h
    refine ⟨by simp [hc], fun j hj => ?_⟩
    obtain rfl : j = 0 := by simp at hj; omega
    exact ⟨n, rfl, hw⟩
  · rename_i n e hu
    simp only [Bool.and_eq_true, beq_iff_eq] at ht
    obtain ⟨he, hc⟩ := ht
    obtain ⟨xs, m, _, _, hl, hxl, hf⟩ := DataW.trod_array hu h
    refine ⟨hl, fun j hj => ?_⟩
    rw [hl, hc] at hj
    have hcp : 0 < P.cellsOf e := by
     rcases Nat.eq_zero_or_pos (P.cellsOf e) with h0 | h0
     · rw [h0] at hj; simp at hj
     · exact h0
    have hjn : j / P.cellsOf e < n := by rw [Nat.div_lt_iff_lt_mul hcp]; exact hj
    have hfe := hf (j / P.cellsOf e) hjn
    rw [List.getElem?_eq_getElem (by omega)] at hfe
    obtain ⟨hl2, hv⟩ := ih e he m _ _ hfe
    have hm := Nat.mod_lt j hcp
    obtain ⟨v, hv1, hv2⟩ := hv (j % P.cellsOf e) (by rw [hl2]; exact hm)
    refine ⟨v, ?_, hv2⟩
    rw [List.getElem?_take, if_pos hm, List.getElem?_drop] at hv1
    rwa [show j / P.cellsOf e * P.cellsOf e + j % P.cellsOf e = j by rw [Nat.mul_comm]; exact Nat.div_add_mod j _] at hv1
  · rename_i fs hu
    simp only [Bool.and_eq_true] at ht
    obtain ⟨he, hc⟩ := ht
    obtain ⟨xs, m, _, _, hl, hxl, hf⟩ := DataW.trod_struct hu h
    refine ⟨hl, fun j hj => ?_⟩
    rw [List.all_eq_true] at he hc
    have h1 := hc j (List.mem_range.2 (by omega))
    rw [List.any_eq_true] at h1
    obtain ⟨f, hfm, h1⟩ := h1
    simp only [Bool.and_eq_true, decide_eq_true_eq] at h1
    obtain ⟨i, hi, hfi⟩ := List.getElem_of_mem hfm
    have hi' : i < fs.size := by simpa using hi
    have hfe := hf i f (by rw [Array.getElem?_eq_getElem hi']; simpa using hfi)
    rw [List.getElem?_eq_getElem (by omega)] at hfe
    obtain ⟨hl2, hv⟩ := ih f.type (he f hfm) m _ _ hfe
    obtain ⟨v, hv1, hv2⟩ := hv (j - f.offset) (by rw [hl2]; omega)
    refine ⟨v, ?_, hv2⟩
    rw [List.getElem?_take, if_pos (by omega), List.getElem?_drop, show f.offset + (j - f.offset) = j by omega] at hv1
    exact hv1
  · cases ht
theorem op_slice_t {H : Type} {enc : TypeId × Value → H} {P : Program} {W : World} {t e : TypeId} {v : Value} {x : DataW H × List MemPlace} {fuel : Nat} (k : IntKind) (ht : P.underlying t = some (.slice e)) (dp : Nat) (he : allInts P k dp e = true)
 (s : Nat) (hs : P.cellsOf e = s) (hs0 : 0 < s) (h : DataW.trod enc P W 0 (fun _ => true) true fuel t [v] = some x) :
 ∃ (n : Nat) (ns : List Int), ns.length = n * s ∧ Sl W s v n (ns.map (Value.int k)) ∧ ∀ i, i < ns.length → (Lit.int k (nth ns i)).wf = true := by
 rcases open_slice ht h with ⟨h0, _⟩ | ⟨a, len, cap, m, n, D, Pl, hcs, hb, hl, hm, hmm, _, hx⟩
 · obtain rfl : v = .slice none 0 0 := by simpa using h0
   exact ⟨0, [], by simp, Sl.nil W s, fun i hi => by simp at hi⟩
 · obtain rfl : v = .slice (some a) len cap := by simpa using hcs
   have hmc : m = cap := by simpa using hmm
   subst hmc
   have each : ∀ i, i < len * s → ∃ q : Int, W.cell? (a.add i) = some (.int k q) ∧ (Lit.int k q).wf = true := by
    intro i hi
    have hsp : 0 < s := by
     rcases Nat.eq_zero_or_pos s with h0 | h0
     · rw [h0] at hi; simp at hi
     · exact h0
    have hil : i / s < len := by rw [Nat.div_lt_iff_lt_mul hsp]; exact hi
    obtain ⟨cs', h1, h2⟩ := hx (i / s) (by omega)
    rw [hs] at h1
    obtain ⟨hl3, hv3⟩ := trod_ints k dp e he _ _ _ h2
    obtain ⟨_, hl4, hc4⟩ := World.cells?_some h1
    have hm3 := Nat.mod_lt i hsp
    obtain ⟨q, hq1, hq2⟩ := hv3 (i % s) (by rw [hl4]; exact hm3)
    refine ⟨q, ?_, hq2⟩
    rw [← hq1, ← hc4 (i % s) hm3, Go.Deep.add_add, show i / s * s + i % s = i by rw [Nat.mul_comm]; exact Nat.div_add_mod i _]
   obtain ⟨f, hf⟩ := choose_lt each
   refine ⟨len, (List.range (len * s)).map f, by simp, ⟨by simp, some a, m, rfl, hl, hm, ?_⟩, ?_⟩
   · rcases Nat.eq_zero_or_pos (len * s) with h0 | h0
     · rcases Nat.eq_zero_or_pos len with h1 | h1
       · exact .inl h1
       · exact absurd h0 (by have := Nat.mul_pos h1 hs0; omega)
     · refine .inr ?_
       have hc0 := (hf 0 h0).1
       have hspot : a.spot = none := by
        rw [show a.add 0 = a from rfl] at hc0
        unfold World.cell? at hc0
        split at hc0
        · split at hc0
          · cases hc0
          · rename_i hh; simpa using hh
        · cases hc0
       refine ⟨a.block, a.off, by cases a; simp at hspot; simp [hspot], fun i hi => ?_⟩
       have hci := (hf i hi).1
       have haddr : a.add i = ⟨a.block, a.off + i, none⟩ := by
        unfold Addr.add
        split
        · rename_i h0; subst h0; cases a; simp at hspot; simp [hspot]
        · rfl
       rw [haddr] at hci
       rw [hci]
       simp [hi]
   · intro i hi
     have hi' : i < len * s := by simpa using hi
     have := (hf i hi').2
     simpa [nth, List.getD, hi'] using this
theorem op_slice {H : Type} {enc : TypeId × Value → H} {P : Program} {W : World} {t e : TypeId} {v : Value} {d : DataW H} {p : List MemPlace} (k : IntKind) (ht : P.underlying t = some (.slice e)) (dp : Nat) (he : allInts P k dp e = true)
 (s : Nat) (hs : P.cellsOf e = s) (hs0 : 0 < s) {base : Nat} (ho : Value.okWide P W .any base t v) (h : DataW.Trod enc P W 0 (fun _ => true) true t v d p) :
 ∃ (n : Nat) (ns : List Int), ns.length = n * s ∧ Sl W s v n (ns.map (Value.int k)) ∧ ∀ i, i < ns.length → (Lit.int k (nth ns i)).wf = true := by
 obtain ⟨fuel, h⟩ := h
 have hvc : v.cells.toList = [v] := by
  unfold Value.okWide at ho
  rw [ht] at ho
  dsimp only at ho
  unfold Cell.okWide at ho
  rw [ht] at ho
  dsimp only at ho
  unfold Cell.ok at ho
  rw [ht] at ho
  cases v <;> first | rfl | exact absurd ho (by simp)
 rw [hvc] at h
 exact op_slice_t k ht dp he s hs hs0 h
theorem op_agg {P : Program} {W : World} {base : Nat} {t : TypeId} {v : Value} (hd : (match P.underlying t with | some (.struct _) | some (.array _ _) => true | _ => false) = true) (ho : Value.okWide P W .any base t v) : ∃ cs, v = .agg cs := by
 unfold Value.okWide at ho
 split at ho
 · obtain ⟨cs, h, _⟩ := ho; exact ⟨cs, h⟩
 · obtain ⟨cs, h, _⟩ := ho; exact ⟨cs, h⟩
 · rename_i h1 h2
   split at hd
   · rename_i x h3; exact absurd h3 (h1 x)
   · rename_i x y h3; exact absurd h3 (h2 x y)
   · cases hd
theorem wf_i64_iff (n : Int) : (Lit.int .i64 n).wf = true ↔ -9223372036854775808 ≤ n ∧ n ≤ 9223372036854775807 := by
 simp only [Lit.wf, Bool.and_eq_true, decide_eq_true_eq]
 have h1 : IntKind.i64.min = -9223372036854775808 := rfl
 have h2 : IntKind.i64.max = 9223372036854775807 := rfl
 rw [h1, h2]
theorem wf_u8_iff (n : Int) : (Lit.int .u8 n).wf = true ↔ 0 ≤ n ∧ n ≤ 255 := by
 simp only [Lit.wf, Bool.and_eq_true, decide_eq_true_eq]
 have h1 : IntKind.u8.min = 0 := rfl
 have h2 : IntKind.u8.max = 255 := rfl
 rw [h1, h2]

end Go.Proofs.YtehbjhocgnfpmaaDoor
/- Tables that came in. -/
namespace Go.Proofs.YtehbjhocgnfpmaaDoor
set_option maxRecDepth 100000
open Go.ChangeShapes Go.WideShapes Go.ChangeAt Go.RowKit Go.Deep
set_option linter.unusedVariables false
theorem ints_of {H : Type} {enc : TypeId × Value → H} {P : Program} {W : World} {base : Nat} {sp : Nat → Bool} {held : Bool} {dp : Nat} {t : TypeId} (ht : allInts P .i64 dp t = true) {fuel : Nat} {cs : List Value} {x : DataW H × List MemPlace} (h : DataW.trod enc P W base sp held fuel t cs = some x) :
 ∃ l : List Int, l.length = P.cellsOf t ∧ cs = l.map (Value.int .i64) ∧ ∀ i, i < l.length → -9223372036854775808 ≤ nth l i ∧ nth l i ≤ 9223372036854775807 := by
 obtain ⟨hl, hv⟩ := trod_ints .i64 dp t ht fuel cs x h
 have key : ∀ i, i < cs.length → ∃ n : Int, cs[i]? = some (.int .i64 n) ∧ -9223372036854775808 ≤ n ∧ n ≤ 9223372036854775807 := fun i hi => by
  obtain ⟨n, h1, h2⟩ := hv i hi
  exact ⟨n, h1, (wf_i64_iff n).1 h2⟩
 obtain ⟨f, hf⟩ := choose_lt key
 refine ⟨tab cs.length f, by rw [tab_len]; exact hl, ?_, fun i hi => ?_⟩
 · apply List.ext_getElem?
   intro i
   by_cases hi : i < cs.length
   · rw [List.getElem?_map, get_nth _ i (by rw [tab_len]; exact hi), nth_tab _ _ _ hi, (hf i hi).1]; rfl
   · rw [List.getElem?_eq_none (by omega), List.getElem?_eq_none (by rw [List.length_map, tab_len]; omega)]
 · rw [tab_len] at hi
   rw [nth_tab _ _ _ hi]; exact (hf i hi).2
structure TabIn (W : World) (C S : List Int) (ad : Option Addr) (n c : Nat) : Prop where
 len : Len C 16
 nc : n ≤ c
 cm : c ≤ 9223372036854775807
 rangeC : ∀ i, i < 16 → -9223372036854775808 ≤ nth C i ∧ nth C i ≤ 9223372036854775807
 sl : Sl W 1 (.slice ad n c) n (S.map (Value.int .i64))
 rangeS : ∀ i, i < n → -9223372036854775808 ≤ nth S i ∧ nth S i ≤ 9223372036854775807
theorem tab_cells {H : Type} {enc : TypeId × Value → H} {W : World} {fuel : Nat} {cs : List Value} {x : DataW H × List MemPlace} (h : DataW.trod enc Tryd.prog W 0 (fun _ => true) true fuel 31 cs = some x) :
 ∃ (C S : List Int) (ad : Option Addr) (n c : Nat), cs = pcells [.ints C, .val (.slice ad n c)] ∧ TabIn W C S ad n c := by
 obtain ⟨xs, m, _, _, hl, hxl, hf⟩ := DataW.trod_struct Tryd.underlying31 h
 have hl17 : cs.length = 17 := by rw [hl]; kernel_rfl
 have hx2 : xs.length = 2 := hxl
 have f0 := hf 0 { name := "Counts", type := 29, offset := 0, embedded := false, tag := "", pkgPath := "", byteOffset := 0 } rfl
 have f1 := hf 1 { name := "Syms", type := 24, offset := 16, embedded := false, tag := "", pkgPath := "", byteOffset := 128 } rfl
 dsimp only at f0 f1
 rw [List.getElem?_eq_getElem (by omega)] at f0 f1
 obtain ⟨C, hC, hcs, hr⟩ := ints_of (dp := 3) kr9 f0
 have hc16 : Tryd.prog.cellsOf 29 = 16 := by kernel_rfl
 have hc1 : Tryd.prog.cellsOf 24 = 1 := by kernel_rfl
 rw [hc16] at hC hcs
 rw [hc1] at f1
 obtain ⟨v, hv⟩ : ∃ v, cs.drop 16 = [v] := by
  match hd : cs.drop 16, (show (cs.drop 16).length = 1 by simp [hl17]) with
  | [v], _ => exact ⟨v, rfl⟩
 rw [hv] at f1
 obtain ⟨n, S, hS, hsl, hsr⟩ := op_slice_t .i64 Tryd.underlying24 1 kr9 1 kr9 (by omega) f1
 obtain ⟨ad, c, rfl, hnc, hcm⟩ : ∃ ad c, v = .slice ad n c ∧ n ≤ c ∧ c ≤ 9223372036854775807 := by
  obtain ⟨_, ad, c, h1, h2, h3, _⟩ := hsl
  exact ⟨ad, c, h1, h2, by unfold maxLen at h3; exact h3⟩
 refine ⟨C, S, ad, n, c, ?_, ⟨hC, hnc, hcm, fun i hi => hr i (by omega), hsl, fun i hi => (wf_i64_iff _).1 (hsr i (by omega))⟩⟩
 rw [← List.take_append_drop 16 cs, hv]
 rw [List.drop_zero] at hcs
 rw [hcs]; rfl

end Go.Proofs.YtehbjhocgnfpmaaDoor
/- Two tables that came in; blocks that came in. -/
namespace Go.Proofs.YtehbjhocgnfpmaaDoor
open Go.ChangeShapes Go.WideShapes Go.ChangeAt Go.RowKit Go.Deep
set_option maxRecDepth 100000
set_option linter.unusedVariables false
theorem tabs_cells {H : Type} {enc : TypeId × Value → H} {W : World} {fuel : Nat} {cs : List Value} {x : DataW H × List MemPlace} (h : DataW.trod enc Tryd.prog W 0 (fun _ => true) true fuel 33 cs = some x) :
 ∃ (C1 S1 C2 S2 : List Int) (a1 a2 : Option Addr) (n1 k1 n2 k2 : Nat), cs = pcells [.ints C1, .val (.slice a1 n1 k1), .ints C2, .val (.slice a2 n2 k2)] ∧ TabIn W C1 S1 a1 n1 k1 ∧ TabIn W C2 S2 a2 n2 k2 := by
 obtain ⟨ys, m2, _, _, hl2, hy2, hg⟩ := DataW.trod_struct Tryd.underlying33 h
 have hl34 : cs.length = 34 := by rw [hl2]; kernel_rfl
 have c17 : Tryd.prog.cellsOf 31 = 17 := by kernel_rfl
 have hy2' : ys.length = 2 := hy2
 have g0 := hg 0 { name := "First", type := 31, offset := 0, embedded := false, tag := "", pkgPath := "", byteOffset := 0 } rfl
 have g1 := hg 1 { name := "Rest", type := 31, offset := 17, embedded := false, tag := "", pkgPath := "", byteOffset := 152 } rfl
 dsimp only at g0 g1
 rw [List.getElem?_eq_getElem (by omega), c17] at g0 g1
 obtain ⟨C1, S1, a1, n1, k1, t1, T1⟩ := tab_cells g0
 obtain ⟨C2, S2, a2, n2, k2, t2, T2⟩ := tab_cells g1
 refine ⟨C1, S1, C2, S2, a1, a2, n1, k1, n2, k2, ?_, T1, T2⟩
 rw [← List.take_append_drop 17 cs]
 rw [List.drop_zero] at t1
 rw [t1]
 have : (cs.drop 17) = (cs.drop 17).take 17 := by rw [List.take_of_length_le]; simp [hl34]
 rw [this, t2]
 simp [pcells, Part.cells]
theorem op_tabs {H : Type} {enc : TypeId × Value → H} {W : World} {v : Value} {d : DataW H} {p : List MemPlace} {base : Nat} (ho : Value.okWide Tryd.prog W .any base 33 v) (h : DataW.Trod enc Tryd.prog W 0 (fun _ => true) true 33 v d p) :
 ∃ (C1 S1 C2 S2 : List Int) (a1 a2 : Option Addr) (n1 k1 n2 k2 : Nat), v = .agg (pcells [.ints C1, .val (.slice a1 n1 k1), .ints C2, .val (.slice a2 n2 k2)]).toArray ∧ TabIn W C1 S1 a1 n1 k1 ∧ TabIn W C2 S2 a2 n2 k2 := by
 obtain ⟨cs, rfl⟩ := op_agg (by rw [Tryd.underlying33]) ho
 obtain ⟨fuel, h⟩ := h
 obtain ⟨C1, S1, C2, S2, a1, a2, n1, k1, n2, k2, h1, T1, T2⟩ := tabs_cells h
 refine ⟨C1, S1, C2, S2, a1, a2, n1, k1, n2, k2, ?_, T1, T2⟩
 have h3 : cs.toList = pcells [.ints C1, .val (.slice a1 n1 k1), .ints C2, .val (.slice a2 n2 k2)] := h1
 show Value.agg cs = Value.agg _
 rw [← h3]

end Go.Proofs.YtehbjhocgnfpmaaDoor
/- What the bound on the bulk gives. -/
namespace Go.Proofs.YtehbjhocgnfpmaaDoor
set_option maxRecDepth 100000
open Go.ChangeShapes Go.WideShapes Go.ChangeAt Go.RowKit
set_option linter.unusedVariables false
theorem bulk_one {H : Type} (d : DataW H) : 1 ≤ Rows.uptoBulk d := by
 cases d with
 | lit l => cases l <;> simp [Rows.uptoBulk]
 | nil => simp [Rows.uptoBulk]
 | ptr d => simp [Rows.uptoBulk]
 | slice elems spare => simp [Rows.uptoBulk]
 | agg parts => simp [Rows.uptoBulk]
 | iface t d => simp [Rows.uptoBulk]
 | map entries => simp [Rows.uptoBulk]
 | held h => simp [Rows.uptoBulk]
theorem bulk_len {H : Type} (l : List (DataW H)) : l.length ≤ Rows.uptoBulkAll l := by
 induction l with
 | nil => simp [Rows.uptoBulkAll]
 | cons x r ih => have := bulk_one x; simp only [Rows.uptoBulkAll, List.length_cons]; omega
theorem bulk_part {H : Type} {d : DataW H} {l : List (DataW H)} (h : d ∈ l) : Rows.uptoBulk d ≤ Rows.uptoBulkAll l := by
 induction l with
 | nil => cases h
 | cons x r ih =>
  simp only [Rows.uptoBulkAll]
  cases List.mem_cons.1 h with
  | inl e => subst e; omega
  | inr e => have := ih e; omega
theorem bulk_of {H : Type} {d : DataW H} {l : List (DataW H)} (hk : Rows.uptoSmall H l = true) (h : d ∈ l) : Rows.uptoBulk d ≤ 1048576 := by
 have h1 : Rows.uptoBulkAll l ≤ 1048576 := of_decide_eq_true hk
 have := bulk_part h
 omega
theorem slice_bulk {H : Type} {enc : TypeId × Value → H} {P : Program} {W : World} {t e : TypeId} {ad : Option Addr} {n c : Nat} {d : DataW H} {p : List MemPlace} (ht : P.underlying t = some (.slice e))
 (h : DataW.Trod enc P W 0 (fun _ => true) true t (.slice ad n c) d p) : n ≤ Rows.uptoBulk d := by
 obtain ⟨fuel, h⟩ := h
 have hvc : (Value.slice ad n c).cells.toList = [.slice ad n c] := rfl
 rw [hvc] at h
 rcases Go.Deep.open_slice ht h with ⟨h0, _⟩ | ⟨a, len, cap, m, k, D, Pl, hcs, _, _, _, _, hx, _⟩
 · have : n = 0 := by have h1 := h0; simp at h1; exact h1.2.1
   omega
 · have e1 : n = len := by have h1 := hcs; simp at h1; exact h1.2.1
   have e2 : d = .slice ((List.range len).map D) ((List.range (m - len)).map fun j => D (len + j)) := (Prod.mk.inj hx).1
   rw [e2]
   simp only [Rows.uptoBulk]
   have := bulk_len ((List.range len).map D)
   rw [List.length_map, List.length_range] at this
   omega
theorem op_bytes {H : Type} {enc : TypeId × Value → H} {W : World} {v : Value} {d : DataW H} {p : List MemPlace} {base : Nat} (ho : Value.okWide Tryd.prog W .any base 34 v) (h : DataW.Trod enc Tryd.prog W 0 (fun _ => true) true 34 v d p) :
 ∃ (n : Nat) (l : List Nat) (ad : Option Addr) (c : Nat), l.length = n ∧ v = .slice ad n c ∧ n ≤ c ∧ c ≤ 9223372036854775807 ∧ Sl W 1 (.slice ad n c) n (l.map fun (x : Nat) => Value.int .u8 (x : Int)) ∧ (∀ x ∈ l, x < 256) ∧ n ≤ Rows.uptoBulk d := by
 obtain ⟨n, ns, hl, hv, hw⟩ := op_slice .u8 Tryd.underlying34 1 kr9 1 kr9 (by omega) ho h
 obtain ⟨ad, c, rfl, hnc, hcm⟩ : ∃ ad c, v = .slice ad n c ∧ n ≤ c ∧ c ≤ 9223372036854775807 := by
  obtain ⟨_, ad, c, h1, h2, h3, _⟩ := hv
  exact ⟨ad, c, h1, h2, by unfold maxLen at h3; exact h3⟩
 have hb : ∀ x ∈ ns, 0 ≤ x ∧ x ≤ 255 := fun x hx => by
  obtain ⟨i, hi, rfl⟩ := List.getElem_of_mem hx
  have := (wf_u8_iff _).1 (hw i hi)
  simpa [nth, List.getD, hi] using this
 have e : ns.map (Value.int .u8) = (ns.map Int.toNat).map fun (x : Nat) => Value.int .u8 (x : Int) := by
  rw [List.map_map]
  refine List.map_congr_left fun x hx => ?_
  have := hb x hx
  simp only [Function.comp]
  rw [Int.toNat_of_nonneg (by omega)]
 refine ⟨n, ns.map Int.toNat, ad, c, by simpa using hl, rfl, hnc, hcm, e ▸ hv, fun x hx => ?_, slice_bulk Tryd.underlying34 h⟩
 obtain ⟨y, hy, rfl⟩ := List.mem_map.1 hx
 have := hb y hy
 omega

end Go.Proofs.YtehbjhocgnfpmaaDoor
/- The law SegAgain: its walk, and the statement. -/
namespace Go.Proofs.YtehbjhocgnfpmaaDoor
open Go.ChangeShapes Go.WideShapes Go.ChangeAt Go.RowKit
set_option maxRecDepth 100000
set_option linter.unusedVariables false
theorem slice_nil2 {H : Type} {enc : TypeId × Value → H} {P : Program} {W : World} {t e : TypeId} {ad : Option Addr} {n c : Nat} {d : DataW H} {p : List MemPlace} (ht : P.underlying t = some (.slice e))
 (h : DataW.Trod enc P W 0 (fun _ => true) true t (.slice ad n c) d p) : ad = none → c = 0 := by
 intro hn
 subst hn
 obtain ⟨fuel, h⟩ := h
 have hvc : (Value.slice none n c).cells.toList = [.slice none n c] := rfl
 rw [hvc] at h
 rcases Go.Deep.open_slice ht h with ⟨h0, _⟩ | ⟨a, len, cap, m, k, D, Pl, hcs, _, _, _, _, hx, _⟩
 · have h1 := h0; simp at h1; exact h1.2
 · have h1 := hcs; simp at h1
set_option maxHeartbeats 8000000 in
theorem SegAgain_walk {H : Type} {enc : TypeId × Value → H} {d0 d1 d2 : DataW H} {p0 p1 p2 : List MemPlace} {v0 v1 v2 : Value} {base : Nat} (W : World)
 (o0 : Value.okWide Tryd.prog W .any base 33 v0) (h0 : DataW.Trod enc Tryd.prog W 0 (fun _ => true) true 33 v0 d0 p0) (lt0 : ∀ x ∈ p0, x.block < W.heap.size)
 (o1 : Value.okWide Tryd.prog W .any base 34 v1) (h1 : DataW.Trod enc Tryd.prog W 0 (fun _ => true) true 34 v1 d1 p1) (lt1 : ∀ x ∈ p1, x.block < W.heap.size)
 (o2 : Value.okWide Tryd.prog W .any base 3 v2) (h2 : DataW.Trod enc Tryd.prog W 0 (fun _ => true) true 3 v2 d2 p2) (lt2 : ∀ x ∈ p2, x.block < W.heap.size)
 (hbulk : Rows.uptoSmall H [d0, d1, d2] = true) (hsh : W.ShapedOpen Tryd.prog) :
 Calls Tryd.prog 8 #[v0, v1, v2] W fun e w' => e = .returned (.bool true) ∧ Ext W w' := by
 obtain ⟨C1, S1, C2, S2, a1, a2, n1, k1, n2, k2, rfl, T1, T2⟩ := op_tabs o0 h0
 obtain ⟨nb, bl, ad, c, hbl, rfl, hnc, hcm, hv0, hb0, hbk⟩ := op_bytes o1 h1
 obtain ⟨z, rfl, hz1, hz2⟩ := op_int Tryd.underlying3 o2 h2
 have hbulk1 := bulk_of hbulk (d := d1) (by simp)
 have hml : ∃ m, W.cell? ⟨0, 0, none⟩ = some (.int .i64 m) := Tryd.laysM185.s1_3 W hsh
 have hnil : ad = none → c = 0 := slice_nil2 Tryd.underlying34 h1
 have hC1 := T1.len
 have hC2 := T2.len
 have hs1 := T1.sl
 have hs2 := T2.sl
 have hn1 : n1 ≤ 9223372036854775807 := Nat.le_trans T1.nc T1.cm
 have hn2 : n2 ≤ 9223372036854775807 := Nat.le_trans T2.nc T2.cm
 have hv : Sl W 1 (.slice ad nb c) nb ((byI bl).map (Value.int .u8)) := by rw [← bv_byI]; exact hv0
 have hx : ∀ x ∈ byI bl, 0 ≤ x ∧ x < 256 := fun x hx => by
  obtain ⟨y, hy, rfl⟩ := List.mem_map.1 hx
  have := hb0 y hy
  omega
 clear o0 h0 lt0 o1 h1 lt1 o2 h2 lt2 hsh T1 T2 hbulk hv0 hb0
 obtain ⟨b, hb⟩ : ∃ b, byI bl = b := ⟨_, rfl⟩
 have hbn : b.length = nb := by rw [← hb]; unfold byI; rw [List.length_map]; exact hbl
 rw [hb] at hv hx
 have HML := hid hml
 have HX := hid hx
 have HNIL := hid hnil
 have HBN := hid hbn
 clear hml hx hnil hbn hb hbl
 have hS := St.start W
 obtain ⟨⟨E, l⟩, hR⟩ : ∃ R, segD C1 S1 C2 S2 b z = R := ⟨_, rfl⟩
 have HR := hid hR
 by_cases h0 : E = 0
 case neg =>
  have hl0 : l = [] := by have := segD_nil (C1 := C1) (S1 := S1) (C2 := C2) (S2 := S2) (b := b) (z := z) (by rw [hR]; exact h0); rw [hR] at this; exact this
  subst hl0
  clear hR
  go_enter Tryd.func8, Tryd.ntmps8
  repeat' (first
   | ((with_reducible apply gt9 _ (.call ⟨.value (.func 15), _, _⟩)); refine wpl_call (f := 15) Tryd.call15 kr9 ?_; refine ⟨_, (blocked_any _), ?_⟩; rintro e w ⟨rfl, hE⟩; replace hS := hS.ext hE; clear hE; refine ⟨_, rfl, ?_⟩; refine put_move ?_; go_step) | ((with_reducible apply as9); (first | go_big_want | go_step); go_step) | ((with_reducible apply gt9 _ (.unOp .not _ _)); (refine wvv9 (V.not rfl) ?_; go_step)) | ((with_reducible apply gs9 3); (refine wl9 ?_; apply wp_boxP (o := ⟨some 3, _, _, _, _, _⟩) hS 33 _ rfl _ rfl; clear hS; intro g3 w hS; refine put_move ?_; go_step)) | ((fail_if_success with_reducible apply ga9); go_step))
  all_goals (try (have hF : False := (by omega); cases hF))
  repeat' (first
   | ((with_reducible apply gs9 17); refine wpl_call (f := 24) Tryd.call24 kr9 ?_; refine ⟨_, (segDecode_any _ C1 C2 S1 S2 a1 a2 n1 n2 k1 k2 hC1 hC2 (hs1.ext hS.1) (hs2.ext hS.1) hn1 hn2 ad nb c b z (by omega) (hv.ext hS.1) HNIL.out HX.out (HML.out.imp fun m h => hS.1.cell h) _ HR.out), ?_⟩; rintro e w ⟨ao, co, mo, hmo, rfl, hS2⟩; obtain rfl : mo = 0 := (by have h9 : (0 : Nat) = mo * 64 := hmo; omega); dsimp only; replace hS := hS.ext hS2.1; clear hS2; refine ⟨_, rfl, ?_⟩; refine put_move ?_; go_step) | ((first | (with_reducible apply mv9) | (with_reducible apply as9)); (first | go_big_want | go_step); go_step) | ((with_reducible apply gt9 _ (.extract _ _)); (refine wvv9 (V.extract rfl rfl) ?_; go_step)) | ((with_reducible apply gt9 _ (.binOp .neq 25 _ _ _)); (refine wvv9 (V.neq rfl rfl) ?_; go_step)) | ((with_reducible apply gt9 _ (.call ⟨.builtin .len, _, _⟩)); (refine wvv9 (V.len Tryd.underlying22 rfl) ?_; go_step)) | ((with_reducible apply gt9 _ (.binOp .eql 3 _ _ _)); (refine wvv9 (V.eql rfl rfl) ?_; go_step)) | ((with_reducible apply gt9 _ (.load 33 _)); (refine wl9 ?_; apply wp_loadPP hS 33 _ rfl _ _ rfl 34 (row_of rfl) _; (case hp => exact pl9); (case hi => (repeat (first | (apply AtP.head; (repeat (first | exact Pre.nil | (apply Pre.ints; (case hn => (first | (with_reducible assumption) | exact Len.rep | exact Len.set (by with_reducible assumption) | exact Len.set Len.rep | exact Len.set (Len.set Len.rep))); (case h => omega); (case hm => rfl)) | apply Pre.val))) | (apply AtP.skipI; (case hn => (first | (with_reducible assumption) | exact Len.rep | exact Len.set (by with_reducible assumption) | exact Len.set Len.rep | exact Len.set (Len.set Len.rep))); (case h => omega); (case ho => rfl)) | apply AtP.skipV))); refine put_move ?_; go_step)) | ((fail_if_success with_reducible apply ga9); go_step))
  all_goals (try (have hF : False := (by omega); cases hF))
  all_goals (go_ret; exact ⟨rfl, hS.1⟩)
 subst h0
 obtain ⟨n, hzn, hn4, hll, hse, hsb⟩ := segD_again (C1 := C1) (S1 := S1) (C2 := C2) (S2 := S2) (b := b) (z := z) (by rw [hR])
 rw [hR] at hll hse hsb
 dsimp only at hll hse hsb
 subst hzn
 have HLL := hid hll
 have HSE := hid hse
 have HSB := hid hsb
 clear hR hll hse hsb
 go_enter Tryd.func8, Tryd.ntmps8
 repeat' (first
  | ((with_reducible apply gt9 _ (.call ⟨.value (.func 15), _, _⟩)); refine wpl_call (f := 15) Tryd.call15 kr9 ?_; refine ⟨_, (blocked_any _), ?_⟩; rintro e w ⟨rfl, hE⟩; replace hS := hS.ext hE; clear hE; refine ⟨_, rfl, ?_⟩; refine put_move ?_; go_step) | ((with_reducible apply as9); (first | go_big_want | go_step); go_step) | ((with_reducible apply gt9 _ (.unOp .not _ _)); (refine wvv9 (V.not rfl) ?_; go_step)) | ((with_reducible apply gs9 3); (refine wl9 ?_; apply wp_boxP (o := ⟨some 3, _, _, _, _, _⟩) hS 33 _ rfl _ rfl; clear hS; intro g3 w hS; refine put_move ?_; go_step)) | ((fail_if_success with_reducible apply ga9); go_step))
 all_goals (try (have hF : False := (by omega); cases hF))
 repeat' (first
  | ((with_reducible apply gs9 17); refine wpl_call (f := 24) Tryd.call24 kr9 ?_; refine ⟨_, (segDecode_any _ C1 C2 S1 S2 a1 a2 n1 n2 k1 k2 hC1 hC2 (hs1.ext hS.1) (hs2.ext hS.1) hn1 hn2 ad nb c b (n : Int) (by omega) (hv.ext hS.1) HNIL.out HX.out (HML.out.imp fun m h => hS.1.cell h) _ HR.out), ?_⟩; rintro e w ⟨ao, co, mo, hmo, rfl, hS2⟩; obtain rfl : n = mo := (by have h8 := HLL.out; have h9 : l.length = mo * 64 := hmo; omega); dsimp only at hS2 ⊢; replace hS := hS.call1 hS2; clear hS2 hmo; refine ⟨_, rfl, ?_⟩; refine put_move ?_; go_step) | ((first | (with_reducible apply mv9) | (with_reducible apply as9)); (first | go_big_want | go_step); go_step) | ((with_reducible apply gt9 _ (.extract _ _)); (refine wvv9 (V.extract rfl rfl) ?_; go_step)) | ((with_reducible apply gt9 _ (.binOp .neq 25 _ _ _)); (refine wvv9 (V.neq rfl rfl) ?_; go_step)) | ((with_reducible apply gt9 _ (.load 33 _)); (refine wl9 ?_; apply wp_loadPP hS 33 _ rfl _ _ rfl 34 (row_of rfl) _; (case hp => exact pl9); (case hi => (repeat (first | (apply AtP.head; (repeat (first | exact Pre.nil | (apply Pre.ints; (case hn => (first | (with_reducible assumption) | exact Len.rep | exact Len.set (by with_reducible assumption) | exact Len.set Len.rep | exact Len.set (Len.set Len.rep))); (case h => omega); (case hm => rfl)) | apply Pre.val))) | (apply AtP.skipI; (case hn => (first | (with_reducible assumption) | exact Len.rep | exact Len.set (by with_reducible assumption) | exact Len.set Len.rep | exact Len.set (Len.set Len.rep))); (case h => omega); (case ho => rfl)) | apply AtP.skipV))); refine put_move ?_; go_step)) | ((fail_if_success with_reducible apply ga9); go_step))
 all_goals (try (have hF : False := (by omega); cases hF))
 repeat' (first
  | ((with_reducible apply gs9 28); refine wpl_call (f := 18) Tryd.call18 kr9 ?_; refine ⟨_, (segEncode_any _ C1 C2 S1 S2 a1 a2 n1 n2 k1 k2 hC1 hC2 (hs1.ext hS.1) (hs2.ext hS.1) hn1 hn2 ao n co l (by omega) (hS.sl pl9)), ?_⟩; rintro e w ⟨ap, cp, mp, hmp, rfl, hS2⟩; rw [HSB.out] at hS2; rw [HSB.out, HBN.out] at hmp; subst hmp; rw [HSE.out]; replace hS := hS.call1 hS2; clear hS2; refine ⟨_, rfl, ?_⟩; refine put_move ?_; go_step) | ((first | (with_reducible apply mv9) | (with_reducible apply as9)); (first | go_big_want | go_step); go_step) | ((with_reducible apply gt9 _ (.extract _ _)); (refine wvv9 (V.extract rfl rfl) ?_; go_step)) | ((fail_if_success with_reducible apply ga9); go_step))
 have E1 : BSl w (.slice ad nb c) b := by have := hv.ext hS.1; unfold BSl; rw [HBN.out]; exact this
 have E2 : BSl w (.slice ap nb cp) b := by have := hS.sl (show Pull (own 5 1 ap nb cp (b.map (Value.int .u8))) _ _ from pl9); unfold BSl; rw [HBN.out]; exact this
 have H1 := hid (eqByte_any w _ _ _ _ E1 E2)
 clear E1 E2
 repeat' (first
  | ((with_reducible apply gs9 36); refine wpl_call (f := 26) Tryd.call26 kr9 ?_; refine ⟨_, (H1.out), ?_⟩; rintro e w ⟨rfl, rfl⟩; rw [decide_eq_true rfl]; refine ⟨_, rfl, ?_⟩; refine put_move ?_; go_step) | ((first | (with_reducible apply mv9) | (with_reducible apply as9)); (first | go_big_want | go_step); go_step) | ((with_reducible apply gt9 _ (.pick _ _ _)); (refine wplPickT rfl kr9 ?_; go_step)) | ((with_reducible apply gs9 32); (refine wplD _ (V.eql rfl rfl) kr9 (fun hB => ?_) (fun hB => ?_) <;> (try (have hF : False := (by omega); cases hF)) <;> go_step)) | ((with_reducible apply gt9 _ (.call ⟨.builtin .len, _, _⟩)); (refine wvv9 (V.len Tryd.underlying22 rfl) ?_; go_step)) | ((with_reducible apply gt9 _ (.binOp .eql 3 _ _ _)); (refine wvv9 (V.eql rfl rfl) ?_; go_step)) | ((fail_if_success with_reducible apply ga9); go_step))
 all_goals (try (have hF : False := (by omega); cases hF))
 all_goals (go_ret; first | exact ⟨rfl, hS.1⟩ | exact ⟨ret_bool (decide_eq_true rfl), hS.1⟩)

end Go.Proofs.YtehbjhocgnfpmaaDoor
/- The law SegAgain: the frame round its walk, and the statement. -/
namespace Go.Proofs.YtehbjhocgnfpmaaDoor
open Go.ChangeShapes Go.WideShapes Go.ChangeAt Go.RowKit
set_option linter.unusedVariables false
def SegAgain_args : Array Value := #[.agg #[.int .i64 0, .int .i64 0, .int .i64 0, .int .i64 0, .int .i64 0, .int .i64 0, .int .i64 0, .int .i64 0, .int .i64 0, .int .i64 0, .int .i64 0, .int .i64 0, .int .i64 0, .int .i64 0, .int .i64 0, .int .i64 0, .slice none 0 0, .int .i64 0, .int .i64 0, .int .i64 0, .int .i64 0, .int .i64 0, .int .i64 0, .int .i64 0, .int .i64 0, .int .i64 0, .int .i64 0, .int .i64 0, .int .i64 0, .int .i64 0, .int .i64 0, .int .i64 0, .int .i64 0, .slice none 0 0], .slice none 0 0, .int .i64 0]
theorem SegAgain_own : ownKnob Tryd.prog.godebug = none := by kernel_rfl
theorem SegAgain_laidOut : laidOutB Tryd.prog = true := by kernel_rfl
theorem SegAgain_met (os : Os) (args : Array Value) : laidMetH Tryd.prog Rows.segAgainUptoRow.laid ((World.laidAll Tryd.prog os Rows.segAgainUptoRow.laid).forCall (fun _ _ => 0) ⟨#[], args, []⟩).memory := by
 rw [MakeChecks.laidMetH_plain _ _ _ kr9]; exact laidMet_laidAll _ kr9 kr9
theorem SegAgain_reads (os : Os) {H : Type} (enc : TypeId × Value → H) : ∃ places, DataW.whole enc Tryd.prog ((World.laidAll Tryd.prog os Rows.segAgainUptoRow.laid).forCall (fun _ _ => 0) ⟨#[], SegAgain_args, []⟩).memory Tryd.f8.params.toList Rows.segAgainSpec.vars false (SegAgain_args : Array Value).toList 8 = some ([.agg [.agg [.agg [.lit (.int .i64 0), .lit (.int .i64 0), .lit (.int .i64 0), .lit (.int .i64 0), .lit (.int .i64 0), .lit (.int .i64 0), .lit (.int .i64 0), .lit (.int .i64 0), .lit (.int .i64 0), .lit (.int .i64 0), .lit (.int .i64 0), .lit (.int .i64 0), .lit (.int .i64 0), .lit (.int .i64 0), .lit (.int .i64 0), .lit (.int .i64 0)], .nil], .agg [.agg [.lit (.int .i64 0), .lit (.int .i64 0), .lit (.int .i64 0), .lit (.int .i64 0), .lit (.int .i64 0), .lit (.int .i64 0), .lit (.int .i64 0), .lit (.int .i64 0), .lit (.int .i64 0), .lit (.int .i64 0), .lit (.int .i64 0), .lit (.int .i64 0), .lit (.int .i64 0), .lit (.int .i64 0), .lit (.int .i64 0), .lit (.int .i64 0)], .nil]], .nil, .lit (.int .i64 0)], [], places) :=
 ⟨[], by kernel_rfl⟩
set_option maxRecDepth 100000 in
theorem SegAgain_lifted (os : Os) (started : os.Started) (H : Type) (enc : TypeId × Value → H) (F : Stop.Interp) :
 ReturnsInHanded {} Tryd.checked os 8 .any ((Rows.OpenSpec.upto Rows.segAgainSpec).preRow enc Tryd.prog Tryd.f8 Rows.segAgainUptoRow.domain false Rows.segAgainUptoRow.laid) (((Rows.OpenSpec.upto Rows.segAgainSpec).at F).post enc Tryd.prog Tryd.f8 false true false false) := by
 obtain ⟨places, hx⟩ := SegAgain_reads os enc
 have hok : Input.okWideB Tryd.prog ((World.laidAll Tryd.prog os Rows.segAgainUptoRow.laid).forCall (fun _ _ => 0) ⟨#[], SegAgain_args, []⟩) 8 ⟨#[], SegAgain_args, []⟩ = true := by kernel_rfl
 refine returnsInHanded_of_row (C := Tryd.checked) (s := Rows.OpenSpec.upto Rows.segAgainSpec) SegAgain_own started kr9 Tryd.func8
  ⟨(World.laidAll Tryd.prog os Rows.segAgainUptoRow.laid), fun _ _ => 0, ⟨#[], SegAgain_args, []⟩, World.laidAll_os _ _ _, World.shaped_of_ZipB kr9 kr9, (Input.okWide_of_okWideB (base := 0) hok).1, (Input.okWide_of_okWideB hok).2,
   OpenSpec.preRow_of_cond 8 hx kr9 (fun k hk => by cases hk; kernel_rfl) kr9 (SegAgain_met os _), by
   simp only [Assume.holds]
   exact ⟨by simp, by simp, by simp, by simp, by simp⟩⟩ ?_
 intro W base args ds gs before hval0 hW _ hk _ hL hsh _
 have hval : ∀ (j : Nat) t v, Tryd.f8.params[j]? = some t → args[j]? = some v → Value.okWide Tryd.prog W .any base t v := hval0
 have hW' := hW
 obtain ⟨p, q, hA0, hV, rfl, hfz, hnd⟩ := hW
 have hA : DataW.TrodAll enc Tryd.prog W 0 (fun _ => true) true Tryd.f8.params.toList args.toList ds p := hA0
 rw [Tryd.params8] at hA hval
 obtain ⟨v0, vs0, d0, ds0, p0, q0, hargs, rfl, rfl, h0, r0⟩ := trodAll_cons hA
 obtain ⟨v1, vs1, d1, ds1, p1, q1, rfl, rfl, rfl, h1, r1⟩ := trodAll_cons r0
 obtain ⟨v2, vs2, d2, ds2, p2, q2, rfl, rfl, rfl, h2, r2⟩ := trodAll_cons r1
 obtain ⟨rfl, rfl, rfl⟩ := trodAll_nil r2
 obtain rfl : args = #[v0, v1, v2] := by cases args; simp_all
 obtain ⟨rfl, rfl⟩ := trodVars_none hV
 have lt0 : ∀ x ∈ p0, x.block < W.heap.size := by obtain ⟨m, hm⟩ := h0; exact DataW.trod_lt m _ _ _ hm
 have lt1 : ∀ x ∈ p1, x.block < W.heap.size := by obtain ⟨m, hm⟩ := h1; exact DataW.trod_lt m _ _ _ hm
 have lt2 : ∀ x ∈ p2, x.block < W.heap.size := by obtain ⟨m, hm⟩ := h2; exact DataW.trod_lt m _ _ _ hm
 refine (SegAgain_walk W (hval 0 33 v0 rfl rfl) h0 lt0 (hval 1 34 v1 rfl rfl) h1 lt1 (hval 2 3 v2 rfl rfl) h2 lt2 (by have := hk _ rfl; simpa only [List.append_nil, List.cons_append, List.nil_append] using this) hsh).mono fun e W' ⟨he, bel⟩ => ?_
 subst he
 exact ⟨_, rfl, _, _, _, [], _, [], hW', trodAll_mk1 (shut_bool Tryd.underlying4 _), (trodAll_cons_mk (Below.trod SegAgain_laidOut kr9 (of_decide_eq_true kr9) h0 bel lt0) (trodAll_cons_mk (Below.trod SegAgain_laidOut kr9 (of_decide_eq_true kr9) h1 bel lt1) (trodAll_cons_mk (Below.trod SegAgain_laidOut kr9 (of_decide_eq_true kr9) h2 bel lt2) trodAll_mk0))), rfl, bel.frame _, fun h => by cases h⟩
theorem SegAgain_said : Rows.SegAgainUptoSaid :=
 OpenClaim.holds_of_cond 8 Tryd.f8 rfl rfl rfl rfl rfl rfl rfl ⟨rfl, rfl, rfl, rfl, rfl⟩ rfl rfl rfl rfl rfl kr9 Tryd.func8 kr9
  (of_decide_eq_true kr9) (by unfold Func.isWrapper; rw [if_neg (by decide +kernel)]; exact ⟨rfl, rfl⟩)
  (fun os started H enc _ F => by rw [OpenClaim.pre_eq_preRow]; exact SegAgain_lifted os started H enc F)
theorem SegAgain_plainly (f : FuncId) (fn : Func) (hf : Tryd.pinned.checked.prog.funcNamed "mezzotint/mezzotintkeep.SegAgain" = some f) (hfn : Tryd.pinned.checked.prog.funcs[f]? = some fn) :
 false = Tryd.pinned.checked.prog.looks [] ∧ ∀ (j : Nat) t, fn.params[j]? = some t → Tryd.pinned.checked.prog.wantsStandIn t = false := by
 obtain rfl : f = 8 := Option.some.inj ((show Tryd.prog.funcNamed "mezzotint/mezzotintkeep.SegAgain" = some 8 by kernel_rfl).symm.trans hf) |>.symm
 obtain rfl : fn = Tryd.f8 := (Option.some.inj (Tryd.func8.symm.trans hfn)).symm
 refine ⟨by kernel_rfl, fun j t ht => ?_⟩
 rw [Tryd.params8] at ht
 have hm : t ∈ ([33, 34, 3] : List Nat) := by simpa using Array.mem_of_getElem? ht
 have hall : (([33, 34, 3] : List Nat).all fun u => !Tryd.prog.wantsStandIn u) = true := by kernel_rfl
 exact (show Tryd.prog.wantsStandIn t = false by simpa using List.all_eq_true.1 hall t hm)
theorem SegAgain_proved : Rows.SegAgainUptoCardSaid :=
 Claim7.holds_tied_plain_at .later [] _ _ _ _ SegAgain_said (fun _ h => by cases h) kr9 (fun _ h => by cases h) segAgainUpto_row_tie rfl ⟨rfl, rfl⟩ kr9 rfl SegAgain_plainly kr9

end Go.Proofs.YtehbjhocgnfpmaaDoor