/- What the laws DeskFront DeskErrors DeskSet need, part 8. -/
import Derived.Test.YtngojkompmcceaaGreatDoorBaseDZ2
import Derived.Test.YtngojkompmcceaaGreatDoorBaseDZ6
import Derived.Test.YtngojkompmcceaaGreatDoorBaseDZ7
namespace Go.Proofs.YtngojkompmcceaaGreatDoor
attribute [local irreducible] Region.wanted
open Go.RowKit
set_option linter.unusedVariables false
set_option maxRecDepth 100000
set_option maxHeartbeats 8000000
abbrev DV(g n c:Nat)(G:List GP):Ak:=BK g n c (G.map DW)
theorem Ko{Q:List CB}{G:List GP}(h:Q.Perm (G.map DW)):∃G':List GP,G'.Perm G∧G'.map DW=Q:=E8 DW h G rfl
theorem ND{G:List GP}(h:(G.map DW).Pairwise (fun a b=>a.w≤b.w)):OS (G.map DH):=by
 unfold OS
 rw [List.pairwise_map] at h⊢
 exact h
theorem GR{W w:World}{L:List Sr}{rs rs':List Ak}(h:St W w rs)(p:AL (star (L.map Sr.res)) rs rs'){x:Sr}(hx:x∈L):Sl w 1 (.slice x.ad x.xs.length x.c) x.xs.length (x.xs.map (Value.int .i64)):=by
 obtain ⟨s,hs⟩:=h.starGet p (List.mem_map.2 ⟨x,hx,rfl⟩)
 exact hs.sl (show AL (own 3 1 x.ad x.xs.length x.c (x.xs.map (Value.int .i64))) (Sr.res x::s) s from .head)
theorem Ez(m0:Int)(a1:Option Addr)(n1 c1:Nat)(w:World):(Instr.build 109 #[(0, .int .i64 m0),(1, .slice a1 n1 c1)]).run Tryz.prog w= .ok (.agg #[.int .i64 m0, .slice a1 n1 c1]) w:=by kernel_rfl
theorem NT(w0:World)(c:List Int)(ad:Option Addr)(n cap:Nat)(hv:Sl w0 1 (.slice ad n cap) n (c.map (Value.int .i64)))(hn:n≤9223372036854775807)(hok:bE c=0):
 Calls Tryz.prog 53 #[.slice ad n cap] w0 fun e w=>∃(f:Int→Nat) (R:List Pk) (C S:List Int) (ao:Option Addr) (co:Nat),BU (FK c n) 16 R∧f=Cc (R.take (2*(FK c n).length-2))∧A4 C 16∧(∀i,i<16→AG C i=((A9 f n (i+1)).length:Nat))∧S=Bh f n 16∧e= .returned (.tuple #[tv C (.slice ao S.length co), .int .i64 0])∧St w0 w [own 3 1 ao S.length co (S.map (Value.int .i64))]:=by
 have hS:=St.start w0
 have hcl:c.length=n:=by have:=hv.1;simpa using this
 have HCK:=AC (fun (w:World)(hE:AP w0 w)=>EC w c ad n cap (hv.ext hE) hn)
 rw [hok] at HCK
 have hn2:n≤256∧BM c 0 9999=true:=by
  unfold bE at hok
  rw [hcl] at hok
  by_cases h:256<n
  ·rw [if_pos h] at hok;cases hok
  rw [if_neg h] at hok
  by_cases h2:BM c 0 9999=true
  ·exact ⟨by omega,h2⟩
  rw [if_neg h2] at hok;cases hok
 obtain ⟨hn3,hall⟩:=hn2
 have hrng:=(BV c 0 9999).1 hall
 rw [hcl] at hrng
 have HRNG:=AC hrng
 have HV:=AC hv
 clear hrng hall hok
 go_enter Tryz.func53,Tryz.ntmps53
 repeat' (first
  | (refine Ar 72 ?_);refine As AA Tryz.call72 (HCK.out _ hS.1) (C9 hS ?_);clear hS;intro w hS;go_step|refine X0 ?_|refine OI 22 ?_|refine QP 2 ?_;clear hS;intro g2 w hS|refine AF ?_;go_step|fail)
 repeat' (first
  | refine Ry 25 ?_;clear hS;intro g25 w hS|(refine AH 27 ?_);(refine At ?_;apply Cg (o:=⟨some 27,_,_,_,_,_⟩) hS 110 1 _ rfl 109 2 32 FG _ _;(case hvs=>(repeat (first|exact AV.nil|(apply AV.agg;(rfl);(rfl))|(apply AV.one;exact D0;(rfl);(rfl)))));(case hn=>rfl);(case hn0=>decide);(case hns=>decide);clear hS;intro g27 w hS;simp only [List.cons_append,List.nil_append] at hS;refine AB ?_;go_step)|refine X0 ?_|(refine AH 26 ?_);(refine AR AA (V.build (vs:=[(0,_),(1,_)]) rfl (Ez _ _ _ _)) ?_;go_step)|refine LD 29 ?_|refine AF ?_;go_step|fail)
 have h2:=((hS.sub (xs:=[own 3 1 (some ⟨g25,0,none⟩) 1 1 [.int .i64 (-1)],own 109 2 (some ⟨g27,0,none⟩) 1 1 [.int .i64 0, .slice (some ⟨g25,0,none⟩) 1 1],prt g2 [.ints (List.replicate 16 0), .val (.slice none 0 0)]]) Ad).star0).starPut .head
 clear hS
 go_loopg [5,30] n (fun gk sv iv w=>∃(k N:Nat) (aa:Option Addr) (ca:Nat) (G:List GP) (L:List Sr),gk+k=n∧N=G.length∧N≤k+1∧1≤N∧iv= .int .i64 k∧sv= .slice aa N ca∧G.map DH=FK c k∧(∀p∈G,p.r∈L)∧
  St w0 w [own 109 2 aa N ca ((G.map DW).flatMap Gz),star (L.map Sr.res),prt g2 [.ints (List.replicate 16 0), .val (.slice none 0 0)]])
 case atStart=>exact ⟨0,1,_,_,[⟨0,⟨some ⟨g25,0,none⟩,1,[-1]⟩⟩],[⟨some ⟨g25,0,none⟩,1,[-1]⟩],by omega,rfl,by omega,by omega,rfl,rfl,rfl,by intro p hp;simp at hp;subst hp;simp,by
  have h3:=h2.sub (xs:=[own 109 2 (some ⟨g27,0,none⟩) 1 1 [.int .i64 0, .slice (some ⟨g25,0,none⟩) 1 1],star ([]++[own 3 1 (some ⟨g25,0,none⟩) 1 1 [.int .i64 (-1)]]),prt g2 [.ints (List.replicate 16 0), .val (.slice none 0 0)]]) Ad
  have e1:([⟨0,⟨some ⟨g25,0,none⟩,1,[-1]⟩⟩]:List GP).map DW=[⟨0,some ⟨g25,0,none⟩,1,1⟩]:=rfl
  have e2:([⟨0,some ⟨g25,0,none⟩,1,1⟩]:List CB).flatMap Gz=[.int .i64 0, .slice (some ⟨g25,0,none⟩) 1 1]:=rfl
  have e3:([⟨some ⟨g25,0,none⟩,1,[-1]⟩]:List Sr).map Sr.res=[own 3 1 (some ⟨g25,0,none⟩) 1 1 [.int .i64 (-1)]]:=rfl
  rw [e1,e2,e3];exact h3⟩
 case round=>
  clear h2
  obtain ⟨k,N,aa,ca,G,L,hk,hN,hN2,hN3,rfl,rfl,hG,hL,hS⟩:=hrel
  have HG:=AC hG
  have HL:=AC hL
  clear hG hL
  by_cases hlt:k<n
  ·have hs:=No c k
   have hx:=HRNG.out k hlt
   obtain ⟨x,hxx⟩:∃x,AG c k=x:=⟨_,rfl⟩
   have HXX:=AC hxx
   rw [hxx] at hs hx
   by_cases hx0:0<x
   ·rw [if_pos hx0] at hs
    have HSG:=AC hs
    clear hs
    repeat' (first
     | refine X0 ?_|refine X3 31 ?_|refine QA 33 ?_;intro b33 o33 hc33;go_step|refine OF ?_|refine AF ?_;go_step|fail)
    rw [HXX.out]
    repeat' (first
     | refine X1 ?_|refine LB 36 ?_|refine AF ?_;go_step|fail)
    repeat' (first
     | refine Ry 40 ?_;clear hS;intro g40 w hS|refine X8 ?_|(refine AH 41 ?_);(refine AR AA (V.build (vs:=[(0,_),(1,_)]) rfl (Ez _ _ _ _)) ?_;go_step)|(refine AH 42 ?_);(refine At ?_;apply Ae (o:=⟨some 42,_,_,_,_,_⟩) hS 110 1 _ rfl 109 2 32 FG _ _;(case hvs=>(repeat (first|exact AV.nil|(apply AV.agg;(rfl);(rfl))|(apply AV.one;exact D0;(rfl);(rfl)))));(case hn=>rfl);(case hn0=>decide);(case hns=>decide);clear hS;intro g42 w hS;simp only [List.cons_append,List.nil_append] at hS;refine AB ?_;go_step)|(refine AH 43 ?_);(refine At ?_;apply AY (o:=⟨some 43,_,_,_,_,_⟩) hS _ _ 110 rfl 109 2 32 FG _ _ _ _ rfl;(case hp=>exact AQ);(case hx=>exact rfl);(case hm=>(first|exact hS.slBlk AQ (by rfl) (by decide)|exact hS.sl AQ|with_reducible assumption|exact Sl.ext (by with_reducible assumption) hS.1|exact Sl.nil _ _|exact Sl.ext (by assumption) hS.1|assumption));(case h1=>(first|exact BJ rfl|exact GF _ _|(intro u hu;cases hu)));(case h63=>unfold maxLen;omega);(case hb=>omega);clear hS;intro ad43 c43 w hS;(first|simp only [B4] at hS|simp only [B5] at hS|simp only [B6] at hS|simp only [B7] at hS|simp only [B8] at hS|skip);refine AB ?_;go_step)|refine AF ?_;go_step|fail)
    repeat' (first
     | refine QQ 44 ?_|refine X1 ?_|refine AF ?_;go_step|fail)
    have h2:=(hS.sub (xs:=[star (L.map Sr.res),own 3 1 (some ⟨g40,0,none⟩) 1 1 [.int .i64 (k:Nat)],own 109 2 ad43 (N+1) c43 ((G.map DW).flatMap Gz++[.int .i64 x, .slice (some ⟨g40,0,none⟩) 1 1]),prt g2 [.ints (List.replicate 16 0), .val (.slice none 0 0)]]) Ad).starPut .head
    go_roundg (gk-1)
    case measure=>omega
    case rel=>
     refine ⟨k+1,N+1,ad43,c43,G++[⟨x,⟨some ⟨g40,0,none⟩,1,[(k:Int)]⟩⟩],L++[⟨some ⟨g40,0,none⟩,1,[(k:Int)]⟩],by omega,by simp;omega,by omega,by omega,by go_num,rfl,?_,?_,?_⟩
     ·rw [List.map_append,HG.out,HSG.out];rfl
     ·intro p hp
      rcases List.mem_append.1 hp with hp|hp
      ·exact List.mem_append_left _ (HL.out p hp)
      simp at hp;subst hp;simp
     rw [Kp,List.map_append]
     exact h2.sub (xs:=[own 109 2 ad43 (N+1) c43 ((G.map DW).flatMap Gz++[.int .i64 x, .slice (some ⟨g40,0,none⟩) 1 1]),star (L.map Sr.res++[own 3 1 (some ⟨g40,0,none⟩) 1 1 [.int .i64 (k:Nat)]]),prt g2 [.ints (List.replicate 16 0), .val (.slice none 0 0)]]) Ad
   rw [if_neg hx0] at hs
   have HSG:=AC hs
   clear hs
   repeat' (first
    | refine X0 ?_|refine X3 31 ?_|refine QA 33 ?_;intro b33 o33 hc33;go_step|refine OF ?_|refine AF ?_;go_step|fail)
   rw [HXX.out]
   repeat' (first
    | refine LB 36 ?_|refine AF ?_;go_step|fail)
   repeat' (first
    | refine QQ 44 ?_|refine X1 ?_|refine AF ?_;go_step|fail)
   go_roundg (gk-1)
   case measure=>omega
   case rel=>exact ⟨k+1,N,aa,ca,G,L,by omega,hN,by omega,hN3,by go_num,rfl,by rw [HG.out,HSG.out],HL.out,hS⟩
  obtain rfl:k=n:=by omega
  obtain ⟨g5,rfl⟩:=Bb hS .head (by omega)
  have hNl:(FK c k).length=N:=by rw [←HG.out,List.length_map,hN]
  have HNL:=AC hNl
  clear hNl
  replace hS:St w0 wr [DV g5 N ca G,star (L.map Sr.res),prt g2 [.ints (List.replicate 16 0), .val (.slice none 0 0)]]:=hS
  repeat' (first
   | refine X1 ?_|refine X3 31 ?_|refine AF ?_;go_step|fail)
  repeat' (first
   | (refine Ar 73 ?_);refine As AA Tryz.call73 (Dd w0 _ _ _ g5 N ca (G.map DW) hS .head (by omega)) ?_;rintro e w ⟨rfl,Q0,hQ1,hQ2,hS2⟩;replace hS:=hS2;clear hS2;refine A2 ?_;go_step|refine X1 ?_|refine AF ?_;go_step|fail)
  obtain ⟨G1,hG1,rfl⟩:=Ko hQ1
  have hR1:BU (FK c k) 1 (G1.map DH):= .one _ (HG.out▸ hG1.map DH) (ND hQ2)
  have hL1:∀p∈G1,p.r∈L:=fun p hp=>HL.out p (hG1.mem_iff.1 hp)
  have hN1:N=G1.length:=by rw [hG1.length_eq];exact hN
  have HP1:Hid ((G1.map DH).Perm (FK c k)):=HG.out▸ hG1.map DH
  have HR1:=AC hR1
  have HL1:=AC hL1
  clear hQ1 hQ2 hR1 hL1 hG1 HL HG hN
  repeat' (first
   | (refine Ar 75 ?_);refine As AA Tryz.call75 (LK w0 _ _ _ g5 N ca (G1.map DW) hS .head (by omega) (by omega)) ?_;rintro e w ⟨g8,c8,rfl,hS2⟩;replace hS:=hS2;clear hS2;refine A2 ?_;go_step|refine X0 ?_|refine AF ?_;go_step|fail)
  repeat' (first
   | refine AF ?_;go_step|fail)
  go_loopg [8,49] 15 (fun gk rv iv w=>∃(j M a8 c8:Nat) (G2:List GP) (L:List Sr),gk+j=15∧M=G2.length∧iv= .int .i64 j∧rv= .slice (some ⟨a8,0,none⟩) M c8∧BU (FK c k) (j+1) (G2.map DH)∧(∀p∈G2,p.r∈L)∧(∀p∈G1,p.r∈L)∧
   St w0 w [DV a8 M c8 G2,DV g5 N ca G1,star (L.map Sr.res),prt g2 [.ints (List.replicate 16 0), .val (.slice none 0 0)]])
  case atStart=>exact ⟨0,N,g8,c8,G1,L,by omega,hN1,rfl,rfl,HR1.out,HL1.out,HL1.out,hS⟩
  case round=>
   clear hS HL1 HR1
   obtain ⟨j,M,a8,c8,G2,L,hj,hM,rfl,rfl,hR2,hL2,hL1,hS⟩:=hrel
   have hM2:=hR2.len
   rw [HNL.out,List.length_map,←hM] at hM2
   have HR2:=AC hR2
   have HL1:=AC hL1
   by_cases hlt:j<15
   ·obtain ⟨gk1,hgk1⟩:∃x,x=gk:=⟨_,rfl⟩
    subst hgk1
    have hbd:=Ng HRNG.out hn3 (show j+1≤16 by omega) hR2
    have HBD:=AC hbd
    have HL2:=AC hL2
    clear hR2 hL1 hL2 hbd
    repeat' (first
     | refine X8 ?_|refine X3 50 ?_|refine AF ?_;go_step|fail)
    go_loopg [9,10] M (fun gk sv iv w=>∃(q:Nat) (aa:Option Addr) (ca':Nat) (GN:List GP) (L:List Sr),gk+q=M∧2*q≤M∧q=GN.length∧iv= .int .i64 (2*q:Nat)∧sv= .slice aa q ca'∧GN.map DH=(Ci (G2.map DH)).take q∧(∀p∈GN,p.r∈L)∧(∀p∈G2,p.r∈L)∧(∀p∈G1,p.r∈L)∧
     St w0 w [own 109 2 aa q ca' ((GN.map DW).flatMap Gz),DV a8 M c8 G2,DV g5 N ca G1,star (L.map Sr.res),prt g2 [.ints (List.replicate 16 0), .val (.slice none 0 0)]])
    case atStart=>exact ⟨0,none,0,[],L,by omega,by omega,rfl,rfl,rfl,by simp,(fun p hp=>by cases hp),HL2.out,HL1.out,hS.nil 109 2⟩
    case round=>
     clear hS HL1 HL2
     obtain ⟨q,aa,ca',GN,L,hq,hqM,hqn,rfl,rfl,hGN,hLN,hL2,hL1,hS⟩:=hrel
     have HGN:=AC hGN
     have HLN:=AC hLN
     have HL2:=AC hL2
     have HL1:=AC hL1
     clear hGN hLN hL2 hL1
     by_cases hlt2:2*q+1<M
     ·obtain ⟨p1,hp1,e1,m1⟩:=NC G2 (2*q) (by omega)
      obtain ⟨p2,hp2,e2,m2⟩:=NC G2 (2*q+1) (by omega)
      have hpk:=Ln (G2.map DH) q (by rw [List.length_map];omega)
      rw [m1,m2] at hpk
      have b1:=HBD.out (DH p1) (List.mem_map.2 ⟨p1,hp1,rfl⟩)
      have b2:=HBD.out (DH p2) (List.mem_map.2 ⟨p2,hp2,rfl⟩)
      have hw1:0≤(AN (G2.map DW) (2*q)).w∧(AN (G2.map DW) (2*q)).w≤50000000:=by rw [e1];exact ⟨b1.1,b1.2.1⟩
      have hw2:0≤(AN (G2.map DW) (2*q+1)).w∧(AN (G2.map DW) (2*q+1)).w≤50000000:=by rw [e2];exact ⟨b2.1,b2.2.1⟩
      have hl12:(([p1.r,p2.r]:List Sr).flatMap (·.xs)).length≤1000000:=by
       have c1:p1.r.xs.length≤5000:=b1.2.2
       have c2:p2.r.xs.length≤5000:=b2.2.2
       simp;omega
      have r1:=HL2.out p1 hp1
      have r2:=HL2.out p2 hp2
      have HPK:=AC hpk
      have E1:=AC e1
      have E2:=AC e2
      have H12:=AC hl12
      have R1:=AC r1
      have R2:=AC r2
      have he:=Bf
      have hCC:Hid (∀(w:World)(g82:Nat)(rs rs':List Ak),St w0 w rs→AL (star (L.map Sr.res)) rs rs'→Sl w 1 (.slice (some ⟨g82,0,none⟩) 2 2) 2 [.slice (AN (G2.map DW) (2*q)).ad (AN (G2.map DW) (2*q)).n (AN (G2.map DW) (2*q)).c, .slice (AN (G2.map DW) (2*q+1)).ad (AN (G2.map DW) (2*q+1)).n (AN (G2.map DW) (2*q+1)).c]→
       Calls Tryz.prog 76 #[.slice (some ⟨g82,0,none⟩) 2 2] w fun e w'=>∃(ad:Option Addr) (c:Nat),e= .returned (.slice ad (p1.r.xs++p2.r.xs).length c)∧St w w' [own 3 1 ad (p1.r.xs++p2.r.xs).length c ((p1.r.xs++p2.r.xs).map (Value.int .i64))]):=fun w g82 rs rs' h p hsl=>by
       rw [e1,e2] at hsl
       have hc:=Jx w g82 2 2 [p1.r,p2.r] hsl (fun r hr=>by
        simp only [List.mem_cons,List.mem_nil_iff,or_false] at hr
        rcases hr with rfl|rfl
        ·exact GR h p r1
        exact GR h p r2) (by omega) hl12
       simpa using hc
      clear hp1 hp2 e1 e2 m1 m2 hpk b1 b2 hl12 r1 r2
      repeat' (first
       | (refine AH 52 ?_);(refine AT (.int _ (((2*q+1:Nat):Int))) (V.as (V.addI rfl rfl (by omega)) (by omega)) (by kernel_rfl) ?_;go_step)|refine X1 ?_|refine RG 54 ?_|refine X3 55 ?_|refine AF ?_;go_step|fail)
      refine AW [27,28] (fun w=>St w0 w [DV a8 M c8 G2]) AA ?_
      replace hS:=hS.drew
      focus
       refine Ah 0 ?_
       refine Ah 1 ?_
       refine Ah 2 ?_
       refine Y0 3 ?_
       refine DT 4 Cj (V.fieldAddr IS rfl Bj) ?_;go_step
       refine SD 5 [12,26,27,28,29] ?_
       refine Ah 6 ?_
       refine Ah 7 ?_
       (refine B9 8 (.int _ (((2*q+1:Nat):Int))) DC AA AA AA E6 (V.as (V.addI rfl rfl (by omega)) (by omega)) AA ?_)
       go_step
       refine Y0 9 ?_
       refine DT 10 Cj (V.fieldAddr IS rfl Bj) ?_;go_step
       refine SD 11 [12,26,27,28,29] ?_
       refine DT 12 Cj (V.addI rfl rfl (by omega)) ?_;go_step
       refine Ah 13 ?_
       refine Ah 14 ?_
       refine Y0 15 ?_
       refine DT 16 Cj (V.fieldAddr IT rfl Bj) ?_;go_step
       refine SC 17 [24,25,26,27,28,29] ?_
       refine Ah 18 ?_
       refine Ah 19 ?_
       refine DT 20 Cj (V.addI rfl rfl (by omega)) ?_;go_step
       refine Y0 21 ?_
       refine DT 22 Cj (V.fieldAddr IT rfl Bj) ?_;go_step
       refine SC 23 [24,25,26,27,28,29] ?_
       refine CS 24 ?_
       (refine Ae (o:=⟨some 82,_,_,_,_,_⟩) hS 143 2 _ rfl 46 1 24 Qb _ _ (by (repeat (first|exact AV.nil|(apply AV.agg;(rfl);(rfl))|(apply AV.one;exact D0;(rfl);(rfl))))) (by rfl) (by decide) (by decide) ?_;clear hS;intro g82 w hS)
       refine ⟨fun _ _=>hS.sub Ad,?_⟩
       refine AK ?_
       go_step
       refine CS 25 ?_
       refine BT (f:=76) rfl Tryz.call76 (hCC.out _ _ _ _ hS AQ (hS.slBlk (n:=2) AQ (by rfl) (by decide))) ?_;rintro e w ⟨ad83,c83,rfl,hS2⟩;replace hS:=hS.call1 hS2;clear hS2;refine ⟨_,rfl,?_⟩
       refine ⟨fun _ _=>hS.sub Ad,?_⟩
       refine AK ?_
       go_step
       refine DT 26 Cj (V.build (vs:=[(0,_),(1,_)]) rfl (Ez _ _ _ _)) ?_;go_step
       refine CS 27 ?_
       (refine Ae (o:=⟨some 85,_,_,_,_,_⟩) hS 110 1 _ rfl 109 2 32 FG _ _ (by (repeat (first|exact AV.nil|(apply AV.agg;(rfl);(rfl))|(apply AV.one;exact D0;(rfl);(rfl))))) (by rfl) (by decide) (by decide) ?_;clear hS;intro g85 w hS;simp only [List.cons_append,List.nil_append] at hS)
       refine ⟨fun h=>absurd (by decide) h,?_⟩
       refine AK ?_
       go_step
       refine CS 28 ?_
       (refine AY (o:=⟨some 86,_,_,_,_,_⟩) hS _ _ 110 rfl 109 2 32 FG _ _ _ _ rfl AQ _ rfl _ _ (by (first|exact hS.slBlk AQ (by rfl) (by decide)|exact hS.sl AQ|with_reducible assumption|exact Sl.ext (by with_reducible assumption) hS.1|exact Sl.nil _ _|exact Sl.ext (by assumption) hS.1|assumption)) (by (first|exact BJ rfl|exact GF _ _|(intro u hu;cases hu))) (by unfold maxLen;omega) (by omega) ?_;clear hS;intro ad86 c86 w hS;(first|simp only [B4] at hS|simp only [B5] at hS|simp only [B6] at hS|simp only [B7] at hS|simp only [B8] at hS|skip))
       refine ⟨fun h=>absurd (by decide) h,?_⟩
       refine AK ?_
       go_step
       refine Ah 29 ?_
       refine AM AA ?_ _
      repeat' (first
       | (refine AH 57 ?_);(refine AT (.int _ (((2*(q+1):Nat):Int))) (V.as (V.addI rfl rfl (by omega)) (by omega)) (by kernel_rfl) ?_;go_step)|refine X0 ?_|refine AF ?_;go_step|fail)
      obtain ⟨w12,hw12⟩:∃w12,(AN (G2.map DW) (2*q)).w+(AN (G2.map DW) (2*q+1)).w=w12:=⟨_,rfl⟩
      rw [hw12] at hS
      have h2:=(hS.sub (xs:=[star (L.map Sr.res),own 3 1 ad83 (p1.r.xs++p2.r.xs).length c83 ((p1.r.xs++p2.r.xs).map (Value.int .i64)),own 109 2 ad86 (q+1) c86 ((GN.map DW).flatMap Gz++[.int .i64 w12, .slice ad83 (p1.r.xs++p2.r.xs).length c83]),DV a8 M c8 G2,DV g5 N ca G1,prt g2 [.ints (List.replicate 16 0), .val (.slice none 0 0)]]) Ad).starPut .head
      go_roundg (gk-1)
      case measure=>omega
      case rel=>
       refine ⟨q+1,ad86,c86,GN++[⟨w12,⟨ad83,c83,p1.r.xs++p2.r.xs⟩⟩],L++[⟨ad83,c83,p1.r.xs++p2.r.xs⟩],by omega,by omega,by simp;omega,by go_num,rfl,?_,?_,fun p hp=>List.mem_append_left _ (HL2.out p hp),fun p hp=>List.mem_append_left _ (HL1.out p hp),?_⟩
       ·rw [List.map_append,HGN.out,HPK.out,←hw12,E1.out,E2.out];rfl
       ·intro p hp
        rcases List.mem_append.1 hp with hp|hp
        ·exact List.mem_append_left _ (HLN.out p hp)
        simp at hp;subst hp;simp
       rw [Kp,List.map_append]
       exact h2.sub (xs:=[own 109 2 ad86 (q+1) c86 ((GN.map DW).flatMap Gz++[.int .i64 w12, .slice ad83 (p1.r.xs++p2.r.xs).length c83]),DV a8 M c8 G2,DV g5 N ca G1,star (L.map Sr.res++[own 3 1 ad83 (p1.r.xs++p2.r.xs).length c83 ((p1.r.xs++p2.r.xs).map (Value.int .i64))]),prt g2 [.ints (List.replicate 16 0), .val (.slice none 0 0)]]) Ad
     have hGN2:GN.map DH=Ci (G2.map DH):=by rw [HGN.out,List.take_of_length_le (by rw [Dl,List.length_map];omega)]
     have HGN2:=AC hGN2
     clear hGN2 HGN
     have he:=Kv (G1.map DW)
     repeat' (first
      | (refine AH 52 ?_);(refine AT (.int _ (((2*q+1:Nat):Int))) (V.as (V.addI rfl rfl (by omega)) (by omega)) (by kernel_rfl) ?_;go_step)|refine X1 ?_|refine RG 54 ?_|refine X3 55 ?_|refine AF ?_;go_step|fail)
     repeat' (first
      | (refine AH 89 ?_);refine At ?_;refine AY (o:=⟨some 89,_,_,_,_,_⟩) hS _ _ 110 rfl 109 2 32 FG _ _ _ _ rfl AQ _ rfl N _ (hS.sl (show AL (DV g5 N ca G1) _ _ from AQ)) he (by unfold maxLen;omega) (by omega) ?_;clear hS;intro ad89 c89 w hS;refine AB ?_;go_step|refine X0 ?_|refine AF ?_;go_step|fail)
     rw [←Pr] at hS
     obtain ⟨g89,rfl⟩:=Bb hS .head (by omega)
     repeat' (first
      | (refine Ar 73 ?_);refine As AA Tryz.call73 (Dd w0 _ _ _ g89 (q+N) c89 ((GN++G1).map DW) hS .head (by omega)) ?_;rintro e w ⟨rfl,Q0,hQ1,hQ2,hS2⟩;replace hS:=hS2;clear hS2;refine A2 ?_;go_step|refine AF ?_;go_step|fail)
     obtain ⟨G3,hG3,rfl⟩:=Ko hQ1
     have hR3:BU (FK c k) (j+2) (G3.map DH):=by
      refine BU.more HR2.out ?_ (ND hQ2)
      have:=hG3.map DH
      rw [List.map_append,HGN2.out] at this
      exact this.trans (List.Perm.append_left _ HP1.out)
     have hL3:∀p∈G3,p.r∈L:=fun p hp=>(List.mem_append.1 (hG3.mem_iff.1 hp)).elim (HLN.out p) (HL1.out p)
     have hN3':q+N=G3.length:=by rw [hG3.length_eq,List.length_append,←hqn,←hN1]
     have HR3:=AC hR3
     have HL3:=AC hL3
     clear hQ1 hQ2 hR3 hL3 hG3
     repeat' (first
      | (refine AH 92 ?_);(refine AT (.int _ (((j+1:Nat):Int))) (V.as (V.addI rfl rfl (by omega)) (by omega)) (by kernel_rfl) ?_;go_step)|refine X1 ?_|refine AF ?_;go_step|fail)
     go_roundg (gk1-1)
     case measure=>omega
     case rel=>exact ⟨j+1,q+N,g89,c89,G3,L,by omega,hN3',by go_num,rfl,HR3.out,HL3.out,HL1.out,hS.sub Ad⟩
   obtain rfl:j=15:=by omega
   have HL2:=AC hL2
   clear hR2 hL2 hL1 HL1
   obtain ⟨Tn,hTn⟩:∃Tn,2*N-2=Tn:=⟨_,rfl⟩
   have hMc:M≤c8:=by
    have:=hS.sl (show AL (DV a8 M c8 G2) _ _ from .head)
    obtain ⟨_,_,_,e,h1,_⟩:=this
    cases e;exact h1
   have hlong:=HR2.out.long (by rw [HNL.out];omega)
   rw [HNL.out,List.length_map,←hM] at hlong
   have hd0:N/2^(15+1-1)=0:=Nat.div_eq_of_lt (by omega)
   rw [hd0] at hlong
   have hTM:Tn≤M:=by omega
   clear hd0 hlong
   obtain ⟨f,hf⟩:∃f:Int→Nat,f=Cc ((G2.map DH).take Tn):=⟨_,rfl⟩
   replace hS:=hS.sub (xs:=[DV a8 M c8 G2,DV g5 N ca G1,star (L.map Sr.res),prt g2 [.ints (List.replicate 16 0), .val (.slice none 0 0)]]) Ad
   repeat' (first
    | refine X3 50 ?_|refine AF ?_;go_step|fail)
   repeat' (first
    | (refine AH 97 ?_);(refine AT (.int _ (((2*N:Nat):Int))) (V.as (V.mulI rfl rfl (by omega)) (by omega)) (by kernel_rfl) ?_;go_step)|(refine AH 98 ?_);(refine AT (.int _ (((Tn:Nat):Int))) (V.as (V.subI rfl rfl (by omega)) (by omega)) (by kernel_rfl) ?_;go_step)|refine X0 ?_|refine RG 96 ?_|(refine AH 99 ?_);(refine AR AA (V.slice Tryz.underlying110 J6 rfl (by (first|exact Lo.none|exact Lo.some rfl BY)) (by (first|exact Up.none|exact Up.some rfl BY)) (by omega) (by omega)) ?_;go_step)|refine RG 100 ?_|(refine AH 93 ?_);(refine At ?_;apply DQ (o:=⟨some 93,_,_,_,_,_⟩) ik hS 115 rfl;clear hS;intro g93 w hS;refine AB ?_;go_step)|refine AF ?_;go_step|fail)
   replace hS:=hS.sub (xs:=[mp ik g93 (fun _=>none),DV a8 M c8 G2,star (L.map Sr.res),prt g2 [.ints (List.replicate 16 0), .val (.slice none 0 0)]]) Ad
   rw [Fr,Nat.sub_zero,Nat.sub_zero]
   rw [←Mx] at hS
   go_loopg [101] Tn (fun gk iv w=>∃(a:Nat),gk+a=Tn∧iv= .int .i64 a∧St w0 w [mp ik g93 (Fp (Br ((G2.map DH).take a))),DV a8 M c8 G2,star (L.map Sr.res),prt g2 [.ints (List.replicate 16 0), .val (.slice none 0 0)]])
   case atStart=>exact ⟨0,by omega,rfl,hS⟩
   case round=>
    clear hS
    obtain ⟨a,ha,rfl,hS⟩:=hrel
    by_cases hlt3:a<Tn
    ·obtain ⟨gk2,hgk2⟩:∃x,x=gk:=⟨_,rfl⟩
     subst hgk2
     obtain ⟨⟨pw,pa,pcp,px⟩,hp,e1,m1⟩:=NC G2 a (by omega)
     have hpr:(⟨pa,pcp,px⟩:Sr)∈L:=HL2.out _ hp
     have e1':AN (G2.map DW) a=⟨pw,pa,px.length,pcp⟩:=e1
     have htk:Br ((G2.map DH).take (a+1))=Br ((G2.map DH).take a)++px:=by
      have hlt4:a<(G2.map DH).length:=by rw [List.length_map];omega
      rw [List.take_succ_eq_append_getElem hlt4,BE,Ce]
      have:(G2.map DH)[a]=DH ⟨pw,⟨pa,pcp,px⟩⟩:=by rw [←m1];exact Of _ _ hlt4
      rw [this];simp [DH,Br]
     have hpl:px.length≤5000:=(Ng HRNG.out hn3 (by omega) HR2.out (DH ⟨pw,⟨pa,pcp,px⟩⟩) (List.mem_map.2 ⟨_,hp,rfl⟩)).2.2
     have HTK:=AC htk
     have HPR:=AC hpr
     have E1:=AC e1'
     obtain ⟨Y,hY⟩:∃Y,Br ((G2.map DH).take a)=Y:=⟨_,rfl⟩
     rw [hY] at hS HTK
     have HY:=AC hY
     clear htk hpr e1' e1 m1 hp hY
     have he:=Bf
     repeat' (first
      | refine X3 102 ?_|(refine AH 103 ?_);(refine AR AA (V.indexSl Tryz.underlying110 J6 rfl rfl BY (by omega) rfl Bj) ?_;go_step)|(with_reducible refine Ap _ (.load 109 _) ?_);(refine At ?_;apply Jl hS 109 _ rfl _ _ rfl 2 (Aj rfl) _ _ _ _ _;(case hp=>exact AQ);(case inst=>infer_instance);(case he=>with_reducible assumption);(case hq=>exact rfl);(case hj=>omega);refine AB ?_;go_step)|(refine AH 13 ?_);(refine At ?_;apply Cf (o:=⟨some 13,_,_,_,_,_⟩) hS 109 rfl (.agg #[.int .i64 0, .slice none 0 0]) [.int .i64 0, .slice none 0 0] (fun w=>Tryz.zeroValue109 w) rfl;clear hS;intro g13 w hS;refine AB ?_;go_step)|(with_reducible refine Ap _ (.store 109 _ _) ?_);(refine At ?_;apply CW hS 109 _ _ rfl _ rfl 2 (Aj rfl) _ _;(case hp=>exact AQ);(case hy=>rfl);(case hn=>rfl);(case hn'=>rfl);(case hv=>rfl);(case hd=>exact rfl);clear hS;intro w hS)|refine AF ?_;go_step|fail)
     rw [E1.out] at hS
     have hYl:Y.length≤5000:=by
      have h1:=HR2.out.syll
      rw [Ie,HNL.out] at h1
      have h2:Br (G2.map DH)=Br ((G2.map DH).take a)++Br ((G2.map DH).drop a):=by rw [←BE,List.take_append_drop]
      rw [h2,List.length_append,HY.out] at h1
      omega
     repeat' (first
      | refine X1 ?_|(refine AH 105 ?_);(refine AR AA (V.fieldAddr IT rfl Bj) ?_;go_step)|refine LD 107 ?_|(with_reducible refine Ap _ (.load 46 _) ?_);(refine At ?_;apply Bz hS 46 _ rfl _ _ rfl (Ai rfl) _;(case hp=>exact AQ);(case hc=>rfl);refine AB ?_;go_step)|refine AF ?_;go_step|fail)
     replace hS:=hS.sub (xs:=[mp ik g93 (Fp Y),DV a8 M c8 G2,star (L.map Sr.res),prt g2 [.ints (List.replicate 16 0), .val (.slice none 0 0)]]) Ad
     go_loopg [108] px.length (fun gk iv w=>∃(b:Nat),gk+b=px.length∧iv= .int .i64 b∧St w0 w [mp ik g93 (Fp (Y++px.take b)),DV a8 M c8 G2,star (L.map Sr.res),prt g2 [.ints (List.replicate 16 0), .val (.slice none 0 0)]])
     case atStart=>exact ⟨0,by omega,rfl,by rw [List.take_zero,List.append_nil];exact hS⟩
     case round=>
      clear hS
      obtain ⟨b,hb,rfl,hS⟩:=hrel
      by_cases hlt4:b<px.length
      ·have hrow:Sl wr 1 (.slice pa px.length pcp) px.length (px.map (Value.int .i64)):=GR hS (show AL (star (L.map Sr.res)) _ _ from AQ) HPR.out
       obtain ⟨_,a1,c1,e1,_,_,hor⟩:=hrow
       cases e1
       rcases hor with h0|⟨b0,o0,rfl,hc⟩
       ·omega
       have hcw:=hc b (by omega)
       rw [List.getElem?_map,CD px b hlt4] at hcw
       replace hcw:wr.cell? ⟨b0,o0+b,none⟩=some (.int .i64 (AG px b)):=hcw
       have htk2:Y++px.take (b+1)=(Y++px.take b)++[AG px b]:=by
        rw [List.take_succ_eq_append_getElem hlt4,List.append_assoc]
        simp [AG,List.getD,hlt4]
       have hZl:(Y++px.take b).length≤10000:=by rw [List.length_append,List.length_take];omega
       obtain ⟨s,hs⟩:∃s,AG px b=s:=⟨_,rfl⟩
       obtain ⟨Z,hZ⟩:∃Z,Y++px.take b=Z:=⟨_,rfl⟩
       rw [hs] at hcw htk2
       rw [hZ] at htk2 hZl hS
       have hcl2:=List.count_le_length (a:=s) (l:=Z)
       obtain ⟨m,hm⟩:∃m,Z.count s=m:=⟨_,rfl⟩
       have HTK2:=AC htk2
       have HSN:=AC (LN Z s)
       rw [hm] at hcl2 HSN
       have hfe:Fp Z s=if m=0 then none else some (.int .i64 (m:Nat)):=by rw [←hm];rfl
       clear hs hZ htk2 hc hm
       repeat' (first
        | (refine AH 111 ?_);refine At ?_;refine Es (o:=⟨some 111,_,_,_,_,_⟩) 3 _ rfl _ rfl (Ai rfl) _ hcw ?_;refine AB ?_;go_step|refine X0 ?_|refine X3 109 ?_|refine RF 110 ?_|refine AF ?_;go_step|fail)
       by_cases hm0:m=0
       ·rw [if_pos hm0] at hfe
        repeat' (first
         | (refine AH 115 ?_);(refine AT (.int _ (((m+1:Nat):Int))) (V.as (V.addI rfl rfl (by omega)) (by omega)) (by kernel_rfl) ?_;go_step)|(refine AH 116 ?_);(refine AT (.int _ (((b+1:Nat):Int))) (V.as (V.addI rfl rfl (by omega)) (by omega)) (by kernel_rfl) ?_;go_step)|refine X1 ?_|refine RZ 114 ?_|refine RO ?_;clear hS;intro w hS|refine AF ?_;go_step|fail)
        rw [HSN.out] at hS
        go_roundg (gk-1)
        case measure=>omega
        case rel=>exact ⟨b+1,by omega,by go_num,by rw [HTK2.out];exact hS⟩
       rw [if_neg hm0] at hfe
       repeat' (first
        | (refine AH 115 ?_);(refine AT (.int _ (((m+1:Nat):Int))) (V.as (V.addI rfl rfl (by omega)) (by omega)) (by kernel_rfl) ?_;go_step)|(refine AH 116 ?_);(refine AT (.int _ (((b+1:Nat):Int))) (V.as (V.addI rfl rfl (by omega)) (by omega)) (by kernel_rfl) ?_;go_step)|refine X1 ?_|refine Ra 114 ?_|refine RO ?_;clear hS;intro w hS|refine AF ?_;go_step|fail)
       rw [HSN.out] at hS
       go_roundg (gk-1)
       case measure=>omega
       case rel=>exact ⟨b+1,by omega,by go_num,by rw [HTK2.out];exact hS⟩
      obtain rfl:b=px.length:=by omega
      rw [List.take_length,←HTK.out] at hS
      repeat' (first
       | refine X3 109 ?_|refine AF ?_;go_step|fail)
      repeat' (first
       | (refine AH 117 ?_);(refine AT (.int _ (((a+1:Nat):Int))) (V.as (V.addI rfl rfl (by omega)) (by omega)) (by kernel_rfl) ?_;go_step)|refine X1 ?_|refine AF ?_;go_step|fail)
      go_roundg (gk2-1)
      case measure=>omega
      case rel=>exact ⟨a+1,by omega,by go_num,hS⟩
    obtain rfl:a=Tn:=by omega
    have HFE:Hid (∀s,Fp (Br ((G2.map DH).take a)) s=if f s=0 then none else some (.int .i64 (f s:Nat))):=fun s=>by rw [hf];rfl
    obtain ⟨F,hF⟩:∃F,Fp (Br ((G2.map DH).take a))=F:=⟨_,rfl⟩
    rw [hF] at hS HFE
    have hf16:∀s,f s≤5000:=fun s=>by
     rw [hf]
     have h1:=HR2.out.syll
     rw [Ie,HNL.out] at h1
     have h2:Br (G2.map DH)=Br ((G2.map DH).take a)++Br ((G2.map DH).drop a):=by rw [←BE,List.take_append_drop]
     rw [h2,List.length_append] at h1
     have h3:=List.count_le_length (a:=s) (l:=Br ((G2.map DH).take a))
     unfold Cc
     omega
    have HF16:=AC hf16
    have HFF:Hid (f=Cc ((G2.map DH).take (2*(FK c k).length-2))):=by unfold Hid;rw [HNL.out,hTn];exact hf
    clear hF hf hf16
    replace hS:=hS.sub (xs:=[mp ik g93 F,prt g2 [.ints (List.replicate 16 0), .val (.slice none 0 0)]]) Ad
    repeat' (first
     | refine X3 102 ?_|refine AF ?_;go_step|fail)
    repeat' (first
     | refine X1 ?_|refine QP 16 ?_;clear hS;intro g16 w hS|refine AF ?_;go_step|fail)
    replace hS:=((hS.sub (xs:=[mp ik g93 F,prt g2 [.ints (List.replicate 16 0), .val (.slice none 0 0)],prt g16 [.ints (List.replicate 16 0), .val (.slice none 0 0)]]) Ad).nilk 3 1 .i64)
    go_loopg [118] 16 (fun gk iv w=>∃(q ls:Nat) (C S:List Int) (ao:Option Addr) (co:Nat),gk+q=16∧iv= .int .i64 q∧ls=S.length∧A4 C 16∧(∀i,i<16→AG C i=D4 f k q 0 i)∧S=Bh f k q∧St w0 w [own 3 1 ao ls co (S.map (Value.int .i64)),mp ik g93 F,prt g2 [.ints (List.replicate 16 0), .val (.slice none 0 0)],prt g16 [.ints C, .val (.slice ao ls co)]])
    case atStart=>exact ⟨0,0,List.replicate 16 0,[],none,0,by omega,rfl,rfl,A4.rep,fun i hi=>by rw [Hh];unfold D4;rw [if_neg (by omega)];split<;>rfl,rfl,hS⟩
    case round=>
     clear hS
     obtain ⟨q,ls,C,S,ao,co,hq,rfl,hls,hC,hCn,hSe,hS⟩:=hrel
     have HCN:=AC hCn
     have HSE:=AC hSe
     clear hCn hSe
     by_cases hlt5:q<16
     ·obtain ⟨gk3,hgk3⟩:∃x,x=gk:=⟨_,rfl⟩
      subst hgk3
      have HLS:Hid (S.length≤16*256):=by
       unfold Hid
       rw [HSE.out]
       have h1:=KM f k q
       have h2:q*k≤16*256:=Nat.mul_le_mul (by omega) (by omega)
       omega
      repeat' (first
       | refine X0 ?_|refine X3 119 ?_|refine LD 122 ?_|refine AF ?_;go_step|fail)
      go_loopg [123] k (fun gk iv w=>∃(s ls:Nat) (C S':List Int) (ao:Option Addr) (co:Nat),gk+s=k∧iv= .int .i64 s∧ls=S'.length∧A4 C 16∧(∀i,i<16→AG C i=D4 f k q s i)∧S'=S++A9 f s (q+1)∧St w0 w [own 3 1 ao ls co (S'.map (Value.int .i64)),mp ik g93 F,prt g2 [.ints (List.replicate 16 0), .val (.slice none 0 0)],prt g16 [.ints C, .val (.slice ao ls co)]])
      case atStart=>exact ⟨0,ls,C,S,ao,co,by omega,rfl,hls,hC,HCN.out,by simp [A9],hS⟩
      case round=>
       clear hS hC HCN
       obtain ⟨s,ls,C,S',ao,co,hs,rfl,hls2,hC,hCn,hSe,hS⟩:=hrel
       have HCN:=AC hCn
       have HSE2:=AC hSe
       have hS'l:ls≤10000:=by
        rw [hls2,hSe,List.length_append]
        have:=Dv f s (q+1)
        have:=HLS.out
        omega
       clear hCn hSe
       by_cases hlt6:s<k
       ·have hfe:=HFE.out (s:Int)
        have hf5:=HF16.out (s:Int)
        obtain ⟨fs,hfs⟩:∃fs,f (s:Int)=fs:=⟨_,rfl⟩
        rw [hfs] at hfe hf5
        have hsk:=EM f s (q+1)
        rw [hfs] at hsk
        by_cases hfq:fs=q+1
        ·rw [if_neg (by omega)] at hfe
         rw [if_pos hfq] at hsk
         have hnq:=HCN.out q hlt5
         have hbq:AG C q=((A9 f s (q+1)).length:Nat):=by
          rw [hnq];unfold D4;rw [if_neg (by omega),if_pos rfl]
         have hbl:=Dv f s (q+1)
         have HSK:=AC hsk
         have HBQ:=AC hbq
         have hbb:0≤AG C q∧AG C q≤256:=by rw [hbq];omega
         clear hsk hfs hnq hbq hbl
         repeat' (first
          | refine RC 130 ?_|refine X0 ?_|refine X3 124 ?_|refine Ki 131 ?_|refine Ra 128 ?_|refine AF ?_;go_step|fail)
         repeat' (first
          | refine X1 ?_|(refine AH 133 ?_);(refine AR AA (V.fieldAddr J2 rfl Bj) ?_;go_step)|(refine AH 134 ?_);(refine AR AA (V.indexAr Tryz.underlying83 Bg rfl rfl BY (by omega) (Nat.mul_one _) Bj) ?_;go_step)|refine QR 136 ?_|(refine AH 137 ?_);(refine AR AA (V.fieldAddr J2 rfl Bj) ?_;go_step)|(refine AH 138 ?_);(refine AR AA (V.indexAr Tryz.underlying83 Bg rfl rfl BY (by omega) (Nat.mul_one _) Bj) ?_;go_step)|(refine AH 139 ?_);(refine AR AA (V.fieldAddr J3 rfl Bj) ?_;go_step)|(refine AH 144 ?_);(refine AR AA (V.fieldAddr J3 rfl Bj) ?_;go_step)|(with_reducible refine Ap _ (.load 3 _) ?_);(refine At ?_;apply MI hS 3 _ rfl _ _ rfl (Ai rfl) _;(case hp=>exact AQ);(case hi=>(repeat (first|(apply Ma.head;(case hn=>exact Gi);(case h=>omega))|(apply Ma.skipI;(case hn=>exact Gi);(case h=>omega);(case ho=>rfl))|apply Ma.skipV)));refine AB ?_;go_step)|refine R3 ?_;clear hS;intro w hS|refine Q7 ?_|refine Qw 142 ?_;clear hS;intro g142 w hS|refine Qy 143 ?_;clear hS;intro ad143 c143 w hS|(with_reducible refine Ap _ (.store 46 _ _) ?_);(refine At ?_;apply Kc hS 46 _ _ rfl _ _ rfl (Ai rfl) _ _;(case hp=>exact AQ);(case hy=>exact D0);(case hz=>rfl);(case hi=>(repeat (first|exact Fh.head|(apply Fh.skipI;(case hn=>exact Gi);(case h=>omega);(case ho=>rfl))|apply Fh.skipV)));(case hd=>exact rfl);clear hS;intro w hS)|refine AF ?_;go_step|fail)
         repeat' (first
          | refine Re 145 ?_|refine X1 ?_|refine AF ?_;go_step|fail)
         go_roundg (gk-1)
         case measure=>omega
         case rel=>
          refine ⟨s+1,ls+1,C.set q (AG C q+1),S'++[(s:Int)],ad143,c143,by omega,by go_num,by rw [List.length_append,←hls2];rfl,hC.set,fun i hi=>?_,by rw [HSE2.out,HSK.out,List.append_assoc],hS.sub Ad⟩
          rw [Ef _ _ _ _ (by rw [hC.out];exact hlt5)]
          unfold D4
          by_cases hiq:q=i
          ·subst hiq
           rw [if_pos rfl,if_neg (by omega),if_pos rfl,HSK.out,HBQ.out,List.length_append];rfl
          rw [if_neg hiq,HCN.out i hi]
          unfold D4
          by_cases hi2:i<q
          ·rw [if_pos hi2,if_pos hi2]
          rw [if_neg hi2,if_neg hi2,if_neg (by omega),if_neg (by omega)]
        rw [if_neg hfq] at hsk
        have HSK:=AC hsk
        have HN2:Hid (∀i,i<16→AG C i=D4 f k q (s+1) i):=fun i hi=>by
         rw [HCN.out i hi]
         unfold D4
         by_cases hi2:i<q
         ·rw [if_pos hi2,if_pos hi2]
         by_cases hi3:i=q
         ·subst hi3;rw [if_neg hi2,if_neg hi2,if_pos rfl,if_pos rfl,hsk]
         rw [if_neg hi2,if_neg hi2,if_neg hi3,if_neg hi3]
        clear hsk hfs
        by_cases hf0:fs=0
        ·rw [if_pos hf0] at hfe
         repeat' (first
          | refine RC 130 ?_|refine X0 ?_|refine X3 124 ?_|refine Ki 131 ?_|refine RZ 128 ?_|refine AF ?_;go_step|fail)
         repeat' (first
          | refine Re 145 ?_|refine X1 ?_|refine AF ?_;go_step|fail)
         go_roundg (gk-1)
         case measure=>omega
         case rel=>exact ⟨s+1,ls,C,S',ao,co,by omega,by go_num,hls2,hC,HN2.out,by rw [HSE2.out,HSK.out],hS.sub Ad⟩
        rw [if_neg hf0] at hfe
        repeat' (first
         | refine RC 130 ?_|refine X0 ?_|refine X3 124 ?_|refine Ki 131 ?_|refine Ra 128 ?_|refine AF ?_;go_step|fail)
        repeat' (first
         | refine Re 145 ?_|refine X1 ?_|refine AF ?_;go_step|fail)
        go_roundg (gk-1)
        case measure=>omega
        case rel=>exact ⟨s+1,ls,C,S',ao,co,by omega,by go_num,hls2,hC,HN2.out,by rw [HSE2.out,HSK.out],hS.sub Ad⟩
       obtain rfl:s=k:=by omega
       repeat' (first
        | refine X3 124 ?_|refine AF ?_;go_step|fail)
       repeat' (first
        | refine RC 146 ?_|refine X1 ?_|refine AF ?_;go_step|fail)
       go_roundg (gk3-1)
       case measure=>omega
       case rel=>
        refine ⟨q+1,ls,C,S',ao,co,by omega,by go_num,hls2,hC,fun i hi=>?_,by rw [HSE2.out,HSE.out,Bn],hS⟩
        rw [HCN.out i hi]
        unfold D4
        by_cases hi2:i<q
        ·rw [if_pos hi2,if_pos (by omega)]
        by_cases hi3:i=q
        ·subst hi3;rw [if_neg hi2,if_pos rfl,if_pos (by omega)]
        rw [if_neg hi2,if_neg hi3,if_neg (by omega)]
        split<;>rfl
     obtain rfl:q=16:=by omega
     have hCf:∀i,i<16→AG C i=((A9 f k (i+1)).length:Nat):=fun i hi=>by
      rw [HCN.out i hi];unfold D4;rw [if_pos hi]
     have HCF:=AC hCf
     clear hCf HCN
     repeat' (first
      | refine X3 119 ?_|refine AF ?_;go_step|fail)
     repeat' (first
      | refine X8 ?_|refine OH ?_|refine Qx ?_;clear hS;intro w hS|refine AF ?_;go_step|fail)
     refine AJ (xs:=[_,_]) rfl (.cons (AD.prt hS rfl (Aj (n:=17) rfl) AQ (by (repeat (first|exact FF.nil|(apply FF.ints;(case hn=>exact Gi);(case h=>omega);(case hm=>rfl))|apply FF.val)))) (.cons (AD.tmp rfl) (.nil))) (by simp) rfl ?_
     exact ⟨f,G2.map DH,C,S,ao,co,HR2.out,HFF.out,hC,HCF.out,HSE.out,by rw [←hls];rfl,by rw [←hls];exact hS.sub Ad⟩
end Go.Proofs.YtngojkompmcceaaGreatDoor
