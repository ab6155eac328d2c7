/- What the laws DeskErrors need, part 8. -/
import Derived.Test.YtngojkompmcceaaGreatDoorBaseEZ2
import Derived.Test.YtngojkompmcceaaGreatDoorBaseEZ6
import Derived.Test.YtngojkompmcceaaGreatDoorBaseEZ7
namespace Go.Proofs.YtngojkompmcceaaGreatDoor
attribute [local irreducible] Region.wanted
open Go.RowKit
set_option linter.unusedVariables false
set_option maxRecDepth 100000
set_option maxHeartbeats 8000000
abbrev DJ(g n c:Nat)(G:List GP):Af:=BG g n c (G.map DL)
theorem Ji{Q:List Bu}{G:List GP}(h:Q.Perm (G.map DL)):∃G':List GP,G'.Perm G∧G'.map DL=Q:=Ek DL h G rfl
theorem Lh{G:List GP}(h:(G.map DL).Pairwise (fun a b=>a.w≤b.w)):Mu (G.map C3):=by
 unfold Mu
 rw [List.pairwise_map] at h⊢
 exact h
theorem Fk{W w:World}{L:List Sr}{rs rs':List Af}(h:St W w rs)(p:AK (star (L.map Sr.res)) rs rs'){x:Sr}(hx:x∈L):Sl w 1 (.slice x.ad x.xs.length x.c) x.xs.length (x.xs.map (Value.int .i64)):=by
 obtain ⟨s,hs⟩:=h.starGet p (List.mem_map.2 ⟨x,hx,rfl⟩)
 exact hs.sl (show AK (own 3 1 x.ad x.xs.length x.c (x.xs.map (Value.int .i64))) (Sr.res x::s) s from .head)
theorem Eg(m0:Int)(a1:Option Addr)(n1 c1:Nat)(w:World):(Instr.build 109 #[(0, .int .i64 m0),(1, .slice a1 n1 c1)]).run Tryz.prog w= .ok (.agg #[.int .i64 m0, .slice a1 n1 c1]) w:=by kernel_rfl
theorem Lz(w0:World)(c:List Int)(ad:Option Addr)(n cap:Nat)(hv:Sl w0 1 (.slice ad n cap) n (c.map (Value.int .i64)))(hn:n≤9223372036854775807)(hok:bE c=0):
 Calls Tryz.prog 53 #[.slice ad n cap] w0 fun e w=>∃(f:Int→Nat) (R:List Pk) (C S:List Int) (ao:Option Addr) (co:Nat),BO (Ey c n) 16 R∧f=CO (R.take (2*(Ey c n).length-2))∧A2 C 16∧(∀i,i<16→AG C i=((A6 f n (i+1)).length:Nat))∧S=BY f n 16∧e= .returned (.tuple #[tv C (.slice ao S.length co), .int .i64 0])∧St w0 w [own 3 1 ao S.length co (S.map (Value.int .i64))]:=by
 have hS:=St.start w0
 have hcl:c.length=n:=by have:=hv.1;simpa using this
 have HCK:=AD (fun (w:World)(hE:AP w0 w)=>Dw w c ad n cap (hv.ext hE) hn)
 rw [hok] at HCK
 have hn2:n≤256∧BJ c 0 9999=true:=by
  unfold bE at hok
  rw [hcl] at hok
  by_cases h:256<n
  ·rw [if_pos h] at hok;cases hok
  rw [if_neg h] at hok
  by_cases h2:BJ c 0 9999=true
  ·exact ⟨by omega,h2⟩
  rw [if_neg h2] at hok;cases hok
 obtain ⟨hn3,hall⟩:=hn2
 have hrng:=(BZ c 0 9999).1 hall
 rw [hcl] at hrng
 have HRNG:=AD hrng
 have HV:=AD hv
 clear hrng hall hok
 go_enter Tryz.func53,Tryz.ntmps53
 repeat' (first
  | (refine Av 72 ?_);refine Aw AA Tryz.call72 (HCK.out _ hS.1) (Dj hS ?_);clear hS;intro w hS;go_step|refine X0 ?_|refine OG 22 ?_|refine Ow 2 ?_;clear hS;intro g2 w hS|refine AF ?_;go_step|fail)
 repeat' (first
  | refine QQ 25 ?_;clear hS;intro g25 w hS|(refine AM 27 ?_);(refine Aq ?_;apply CV (o:=⟨some 27,_,_,_,_,_⟩) hS 110 1 _ rfl 109 2 32 Eu _ _;(case hvs=>(repeat (first|exact AX.nil|(apply AX.agg;(rfl);(rfl))|(apply AX.one;exact Dz;(rfl);(rfl)))));(case hn=>rfl);(case hn0=>decide);(case hns=>decide);clear hS;intro g27 w hS;simp only [List.cons_append,List.nil_append] at hS;refine AB ?_;go_step)|refine X0 ?_|(refine AM 26 ?_);(refine AY AA (V.build (vs:=[(0,_),(1,_)]) rfl (Eg _ _ _ _)) ?_;go_step)|refine J4 29 ?_|refine AF ?_;go_step|fail)
 have h2:=((hS.sub (xs:=[own 3 1 (some ⟨g25,0,none⟩) 1 1 [.int .i64 (-1)],own 109 2 (some ⟨g27,0,none⟩) 1 1 [.int .i64 0, .slice (some ⟨g25,0,none⟩) 1 1],prt g2 [.ints (List.replicate 16 0), .val (.slice none 0 0)]]) Ae).star0).starPut .head
 clear hS
 go_loopg [5,30] n (fun gk sv iv w=>∃(k N:Nat) (aa:Option Addr) (ca:Nat) (G:List GP) (L:List Sr),gk+k=n∧N=G.length∧N≤k+1∧1≤N∧iv= .int .i64 k∧sv= .slice aa N ca∧G.map C3=Ey c k∧(∀p∈G,p.r∈L)∧
  St w0 w [own 109 2 aa N ca ((G.map DL).flatMap GG),star (L.map Sr.res),prt g2 [.ints (List.replicate 16 0), .val (.slice none 0 0)]])
 case atStart=>exact ⟨0,1,_,_,[⟨0,⟨some ⟨g25,0,none⟩,1,[-1]⟩⟩],[⟨some ⟨g25,0,none⟩,1,[-1]⟩],by omega,rfl,by omega,by omega,rfl,rfl,rfl,by intro p hp;simp at hp;subst hp;simp,by
  have h3:=h2.sub (xs:=[own 109 2 (some ⟨g27,0,none⟩) 1 1 [.int .i64 0, .slice (some ⟨g25,0,none⟩) 1 1],star ([]++[own 3 1 (some ⟨g25,0,none⟩) 1 1 [.int .i64 (-1)]]),prt g2 [.ints (List.replicate 16 0), .val (.slice none 0 0)]]) Ae
  have e1:([⟨0,⟨some ⟨g25,0,none⟩,1,[-1]⟩⟩]:List GP).map DL=[⟨0,some ⟨g25,0,none⟩,1,1⟩]:=rfl
  have e2:([⟨0,some ⟨g25,0,none⟩,1,1⟩]:List Bu).flatMap GG=[.int .i64 0, .slice (some ⟨g25,0,none⟩) 1 1]:=rfl
  have e3:([⟨some ⟨g25,0,none⟩,1,[-1]⟩]:List Sr).map Sr.res=[own 3 1 (some ⟨g25,0,none⟩) 1 1 [.int .i64 (-1)]]:=rfl
  rw [e1,e2,e3];exact h3⟩
 case round=>
  clear h2
  obtain ⟨k,N,aa,ca,G,L,hk,hN,hN2,hN3,rfl,rfl,hG,hL,hS⟩:=hrel
  have HG:=AD hG
  have HL:=AD hL
  clear hG hL
  by_cases hlt:k<n
  ·have hs:=MG c k
   have hx:=HRNG.out k hlt
   obtain ⟨x,hxx⟩:∃x,AG c k=x:=⟨_,rfl⟩
   have HXX:=AD hxx
   rw [hxx] at hs hx
   by_cases hx0:0<x
   ·rw [if_pos hx0] at hs
    have HSG:=AD hs
    clear hs
    repeat' (first
     | refine X0 ?_|refine X2 31 ?_|refine Oh 33 ?_;intro b33 o33 hc33;go_step|refine Mh ?_|refine AF ?_;go_step|fail)
    rw [HXX.out]
    repeat' (first
     | refine X1 ?_|refine J2 36 ?_|refine AF ?_;go_step|fail)
    repeat' (first
     | refine QQ 40 ?_;clear hS;intro g40 w hS|refine X7 ?_|(refine AM 41 ?_);(refine AY AA (V.build (vs:=[(0,_),(1,_)]) rfl (Eg _ _ _ _)) ?_;go_step)|(refine AM 42 ?_);(refine Aq ?_;apply Aj (o:=⟨some 42,_,_,_,_,_⟩) hS 110 1 _ rfl 109 2 32 Eu _ _;(case hvs=>(repeat (first|exact AX.nil|(apply AX.agg;(rfl);(rfl))|(apply AX.one;exact Dz;(rfl);(rfl)))));(case hn=>rfl);(case hn0=>decide);(case hns=>decide);clear hS;intro g42 w hS;simp only [List.cons_append,List.nil_append] at hS;refine AB ?_;go_step)|(refine AM 43 ?_);(refine Aq ?_;apply Am (o:=⟨some 43,_,_,_,_,_⟩) hS _ _ 110 rfl 109 2 32 Eu _ _ _ _ rfl;(case hp=>exact AS);(case hx=>exact rfl);(case hm=>(first|exact hS.slBlk AS (by rfl) (by decide)|exact hS.sl AS|with_reducible assumption|exact Sl.ext (by with_reducible assumption) hS.1|exact Sl.nil _ _|exact Sl.ext (by assumption) hS.1|assumption));(case h1=>(first|exact B6 rfl|exact Fd _ _|(intro u hu;cases hu)));(case h63=>unfold maxLen;omega);(case hb=>omega);clear hS;intro ad43 c43 w hS;(first|simp only [DC] at hS|simp only [DD] at hS|simp only [DE] at hS|simp only [DF] at hS|simp only [DG] at hS|skip);refine AB ?_;go_step)|refine AF ?_;go_step|fail)
    repeat' (first
     | refine Oy 44 ?_|refine X1 ?_|refine AF ?_;go_step|fail)
    have h2:=(hS.sub (xs:=[star (L.map Sr.res),own 3 1 (some ⟨g40,0,none⟩) 1 1 [.int .i64 (k:Nat)],own 109 2 ad43 (N+1) c43 ((G.map DL).flatMap GG++[.int .i64 x, .slice (some ⟨g40,0,none⟩) 1 1]),prt g2 [.ints (List.replicate 16 0), .val (.slice none 0 0)]]) Ae).starPut .head
    go_roundg (gk-1)
    case measure=>omega
    case rel=>
     refine ⟨k+1,N+1,ad43,c43,G++[⟨x,⟨some ⟨g40,0,none⟩,1,[(k:Int)]⟩⟩],L++[⟨some ⟨g40,0,none⟩,1,[(k:Int)]⟩],by omega,by simp;omega,by omega,by omega,by go_num,rfl,?_,?_,?_⟩
     ·rw [List.map_append,HG.out,HSG.out];rfl
     ·intro p hp
      rcases List.mem_append.1 hp with hp|hp
      ·exact List.mem_append_left _ (HL.out p hp)
      simp at hp;subst hp;simp
     rw [Jj,List.map_append]
     exact h2.sub (xs:=[own 109 2 ad43 (N+1) c43 ((G.map DL).flatMap GG++[.int .i64 x, .slice (some ⟨g40,0,none⟩) 1 1]),star (L.map Sr.res++[own 3 1 (some ⟨g40,0,none⟩) 1 1 [.int .i64 (k:Nat)]]),prt g2 [.ints (List.replicate 16 0), .val (.slice none 0 0)]]) Ae
   rw [if_neg hx0] at hs
   have HSG:=AD hs
   clear hs
   repeat' (first
    | refine X0 ?_|refine X2 31 ?_|refine Oh 33 ?_;intro b33 o33 hc33;go_step|refine Mh ?_|refine AF ?_;go_step|fail)
   rw [HXX.out]
   repeat' (first
    | refine J2 36 ?_|refine AF ?_;go_step|fail)
   repeat' (first
    | refine Oy 44 ?_|refine X1 ?_|refine AF ?_;go_step|fail)
   go_roundg (gk-1)
   case measure=>omega
   case rel=>exact ⟨k+1,N,aa,ca,G,L,by omega,hN,by omega,hN3,by go_num,rfl,by rw [HG.out,HSG.out],HL.out,hS⟩
  obtain rfl:k=n:=by omega
  obtain ⟨g5,rfl⟩:=BS hS .head (by omega)
  have hNl:(Ey c k).length=N:=by rw [←HG.out,List.length_map,hN]
  have HNL:=AD hNl
  clear hNl
  replace hS:St w0 wr [DJ g5 N ca G,star (L.map Sr.res),prt g2 [.ints (List.replicate 16 0), .val (.slice none 0 0)]]:=hS
  repeat' (first
   | refine X1 ?_|refine X2 31 ?_|refine AF ?_;go_step|fail)
  repeat' (first
   | (refine Av 73 ?_);refine Aw AA Tryz.call73 (DS w0 _ _ _ g5 N ca (G.map DL) hS .head (by omega)) ?_;rintro e w ⟨rfl,Q0,hQ1,hQ2,hS2⟩;replace hS:=hS2;clear hS2;refine A9 ?_;go_step|refine X1 ?_|refine AF ?_;go_step|fail)
  obtain ⟨G1,hG1,rfl⟩:=Ji hQ1
  have hR1:BO (Ey c k) 1 (G1.map C3):= .one _ (HG.out▸ hG1.map C3) (Lh hQ2)
  have hL1:∀p∈G1,p.r∈L:=fun p hp=>HL.out p (hG1.mem_iff.1 hp)
  have hN1:N=G1.length:=by rw [hG1.length_eq];exact hN
  have HP1:Hid ((G1.map C3).Perm (Ey c k)):=HG.out▸ hG1.map C3
  have HR1:=AD hR1
  have HL1:=AD hL1
  clear hQ1 hQ2 hR1 hL1 hG1 HL HG hN
  repeat' (first
   | (refine Av 75 ?_);refine Aw AA Tryz.call75 (J9 w0 _ _ _ g5 N ca (G1.map DL) hS .head (by omega) (by omega)) ?_;rintro e w ⟨g8,c8,rfl,hS2⟩;replace hS:=hS2;clear hS2;refine A9 ?_;go_step|refine X0 ?_|refine AF ?_;go_step|fail)
  repeat' (first
   | refine AF ?_;go_step|fail)
  go_loopg [8,49] 15 (fun gk rv iv w=>∃(j M a8 c8:Nat) (G2:List GP) (L:List Sr),gk+j=15∧M=G2.length∧iv= .int .i64 j∧rv= .slice (some ⟨a8,0,none⟩) M c8∧BO (Ey c k) (j+1) (G2.map C3)∧(∀p∈G2,p.r∈L)∧(∀p∈G1,p.r∈L)∧
   St w0 w [DJ a8 M c8 G2,DJ g5 N ca G1,star (L.map Sr.res),prt g2 [.ints (List.replicate 16 0), .val (.slice none 0 0)]])
  case atStart=>exact ⟨0,N,g8,c8,G1,L,by omega,hN1,rfl,rfl,HR1.out,HL1.out,HL1.out,hS⟩
  case round=>
   clear hS HL1 HR1
   obtain ⟨j,M,a8,c8,G2,L,hj,hM,rfl,rfl,hR2,hL2,hL1,hS⟩:=hrel
   have hM2:=hR2.len
   rw [HNL.out,List.length_map,←hM] at hM2
   have HR2:=AD hR2
   have HL1:=AD hL1
   by_cases hlt:j<15
   ·obtain ⟨gk1,hgk1⟩:∃x,x=gk:=⟨_,rfl⟩
    subst hgk1
    have hbd:=MC HRNG.out hn3 (show j+1≤16 by omega) hR2
    have HBD:=AD hbd
    have HL2:=AD hL2
    clear hR2 hL1 hL2 hbd
    repeat' (first
     | refine X7 ?_|refine X2 50 ?_|refine AF ?_;go_step|fail)
    go_loopg [9,10] M (fun gk sv iv w=>∃(q:Nat) (aa:Option Addr) (ca':Nat) (GN:List GP) (L:List Sr),gk+q=M∧2*q≤M∧q=GN.length∧iv= .int .i64 (2*q:Nat)∧sv= .slice aa q ca'∧GN.map C3=(CX (G2.map C3)).take q∧(∀p∈GN,p.r∈L)∧(∀p∈G2,p.r∈L)∧(∀p∈G1,p.r∈L)∧
     St w0 w [own 109 2 aa q ca' ((GN.map DL).flatMap GG),DJ a8 M c8 G2,DJ g5 N ca G1,star (L.map Sr.res),prt g2 [.ints (List.replicate 16 0), .val (.slice none 0 0)]])
    case atStart=>exact ⟨0,none,0,[],L,by omega,by omega,rfl,rfl,rfl,by simp,(fun p hp=>by cases hp),HL2.out,HL1.out,hS.nil 109 2⟩
    case round=>
     clear hS HL1 HL2
     obtain ⟨q,aa,ca',GN,L,hq,hqM,hqn,rfl,rfl,hGN,hLN,hL2,hL1,hS⟩:=hrel
     have HGN:=AD hGN
     have HLN:=AD hLN
     have HL2:=AD hL2
     have HL1:=AD hL1
     clear hGN hLN hL2 hL1
     by_cases hlt2:2*q+1<M
     ·obtain ⟨p1,hp1,e1,m1⟩:=Lg G2 (2*q) (by omega)
      obtain ⟨p2,hp2,e2,m2⟩:=Lg G2 (2*q+1) (by omega)
      have hpk:=Kb (G2.map C3) q (by rw [List.length_map];omega)
      rw [m1,m2] at hpk
      have b1:=HBD.out (C3 p1) (List.mem_map.2 ⟨p1,hp1,rfl⟩)
      have b2:=HBD.out (C3 p2) (List.mem_map.2 ⟨p2,hp2,rfl⟩)
      have hw1:0≤(AN (G2.map DL) (2*q)).w∧(AN (G2.map DL) (2*q)).w≤50000000:=by rw [e1];exact ⟨b1.1,b1.2.1⟩
      have hw2:0≤(AN (G2.map DL) (2*q+1)).w∧(AN (G2.map DL) (2*q+1)).w≤50000000:=by rw [e2];exact ⟨b2.1,b2.2.1⟩
      have hl12:(([p1.r,p2.r]:List Sr).flatMap (·.xs)).length≤1000000:=by
       have c1:p1.r.xs.length≤5000:=b1.2.2
       have c2:p2.r.xs.length≤5000:=b2.2.2
       simp;omega
      have r1:=HL2.out p1 hp1
      have r2:=HL2.out p2 hp2
      have HPK:=AD hpk
      have E1:=AD e1
      have E2:=AD e2
      have H12:=AD hl12
      have R1:=AD r1
      have R2:=AD r2
      have he:=BV
      have hCC:Hid (∀(w:World)(g82:Nat)(rs rs':List Af),St w0 w rs→AK (star (L.map Sr.res)) rs rs'→Sl w 1 (.slice (some ⟨g82,0,none⟩) 2 2) 2 [.slice (AN (G2.map DL) (2*q)).ad (AN (G2.map DL) (2*q)).n (AN (G2.map DL) (2*q)).c, .slice (AN (G2.map DL) (2*q+1)).ad (AN (G2.map DL) (2*q+1)).n (AN (G2.map DL) (2*q+1)).c]→
       Calls Tryz.prog 76 #[.slice (some ⟨g82,0,none⟩) 2 2] w fun e w'=>∃(ad:Option Addr) (c:Nat),e= .returned (.slice ad (p1.r.xs++p2.r.xs).length c)∧St w w' [own 3 1 ad (p1.r.xs++p2.r.xs).length c ((p1.r.xs++p2.r.xs).map (Value.int .i64))]):=fun w g82 rs rs' h p hsl=>by
       rw [e1,e2] at hsl
       have hc:=Iv w g82 2 2 [p1.r,p2.r] hsl (fun r hr=>by
        simp only [List.mem_cons,List.mem_nil_iff,or_false] at hr
        rcases hr with rfl|rfl
        ·exact Fk h p r1
        exact Fk h p r2) (by omega) hl12
       simpa using hc
      clear hp1 hp2 e1 e2 m1 m2 hpk b1 b2 hl12 r1 r2
      repeat' (first
       | (refine AM 52 ?_);(refine AR (.int _ (((2*q+1:Nat):Int))) (V.as (V.addI rfl rfl (by omega)) (by omega)) (by kernel_rfl) ?_;go_step)|refine X1 ?_|refine Pm 54 ?_|refine X2 55 ?_|refine AF ?_;go_step|fail)
      refine AT [27,28] (fun w=>St w0 w [DJ a8 M c8 G2]) AA ?_
      replace hS:=hS.drew
      focus
       refine Ab 0 ?_
       refine Ab 1 ?_
       refine Ab 2 ?_
       refine Y0 3 ?_
       refine DH 4 CY (V.fieldAddr G4 rfl Br) ?_;go_step
       refine Qc 5 [12,26,27,28,29] ?_
       refine Ab 6 ?_
       refine Ab 7 ?_
       (refine Bs 8 (.int _ (((2*q+1:Nat):Int))) Cy AA AA AA Ei (V.as (V.addI rfl rfl (by omega)) (by omega)) AA ?_)
       go_step
       refine Y0 9 ?_
       refine DH 10 CY (V.fieldAddr G4 rfl Br) ?_;go_step
       refine Qc 11 [12,26,27,28,29] ?_
       refine DH 12 CY (V.addI rfl rfl (by omega)) ?_;go_step
       refine Ab 13 ?_
       refine Ab 14 ?_
       refine Y0 15 ?_
       refine DH 16 CY (V.fieldAddr G5 rfl Br) ?_;go_step
       refine Qb 17 [24,25,26,27,28,29] ?_
       refine Ab 18 ?_
       refine Ab 19 ?_
       refine DH 20 CY (V.addI rfl rfl (by omega)) ?_;go_step
       refine Y0 21 ?_
       refine DH 22 CY (V.fieldAddr G5 rfl Br) ?_;go_step
       refine Qb 23 [24,25,26,27,28,29] ?_
       refine CC 24 ?_
       (refine Aj (o:=⟨some 82,_,_,_,_,_⟩) hS 143 2 _ rfl 46 1 24 O8 _ _ (by (repeat (first|exact AX.nil|(apply AX.agg;(rfl);(rfl))|(apply AX.one;exact Dz;(rfl);(rfl))))) (by rfl) (by decide) (by decide) ?_;clear hS;intro g82 w hS)
       refine ⟨fun _ _=>hS.sub Ae,?_⟩
       refine AJ ?_
       go_step
       refine CC 25 ?_
       refine BN (f:=76) rfl Tryz.call76 (hCC.out _ _ _ _ hS AS (hS.slBlk (n:=2) AS (by rfl) (by decide))) ?_;rintro e w ⟨ad83,c83,rfl,hS2⟩;replace hS:=hS.call1 hS2;clear hS2;refine ⟨_,rfl,?_⟩
       refine ⟨fun _ _=>hS.sub Ae,?_⟩
       refine AJ ?_
       go_step
       refine DH 26 CY (V.build (vs:=[(0,_),(1,_)]) rfl (Eg _ _ _ _)) ?_;go_step
       refine CC 27 ?_
       (refine Aj (o:=⟨some 85,_,_,_,_,_⟩) hS 110 1 _ rfl 109 2 32 Eu _ _ (by (repeat (first|exact AX.nil|(apply AX.agg;(rfl);(rfl))|(apply AX.one;exact Dz;(rfl);(rfl))))) (by rfl) (by decide) (by decide) ?_;clear hS;intro g85 w hS;simp only [List.cons_append,List.nil_append] at hS)
       refine ⟨fun h=>absurd (by decide) h,?_⟩
       refine AJ ?_
       go_step
       refine CC 28 ?_
       (refine Am (o:=⟨some 86,_,_,_,_,_⟩) hS _ _ 110 rfl 109 2 32 Eu _ _ _ _ rfl AS _ rfl _ _ (by (first|exact hS.slBlk AS (by rfl) (by decide)|exact hS.sl AS|with_reducible assumption|exact Sl.ext (by with_reducible assumption) hS.1|exact Sl.nil _ _|exact Sl.ext (by assumption) hS.1|assumption)) (by (first|exact B6 rfl|exact Fd _ _|(intro u hu;cases hu))) (by unfold maxLen;omega) (by omega) ?_;clear hS;intro ad86 c86 w hS;(first|simp only [DC] at hS|simp only [DD] at hS|simp only [DE] at hS|simp only [DF] at hS|simp only [DG] at hS|skip))
       refine ⟨fun h=>absurd (by decide) h,?_⟩
       refine AJ ?_
       go_step
       refine Ab 29 ?_
       refine AL AA ?_ _
      repeat' (first
       | (refine AM 57 ?_);(refine AR (.int _ (((2*(q+1):Nat):Int))) (V.as (V.addI rfl rfl (by omega)) (by omega)) (by kernel_rfl) ?_;go_step)|refine X0 ?_|refine AF ?_;go_step|fail)
      obtain ⟨w12,hw12⟩:∃w12,(AN (G2.map DL) (2*q)).w+(AN (G2.map DL) (2*q+1)).w=w12:=⟨_,rfl⟩
      rw [hw12] at hS
      have h2:=(hS.sub (xs:=[star (L.map Sr.res),own 3 1 ad83 (p1.r.xs++p2.r.xs).length c83 ((p1.r.xs++p2.r.xs).map (Value.int .i64)),own 109 2 ad86 (q+1) c86 ((GN.map DL).flatMap GG++[.int .i64 w12, .slice ad83 (p1.r.xs++p2.r.xs).length c83]),DJ a8 M c8 G2,DJ g5 N ca G1,prt g2 [.ints (List.replicate 16 0), .val (.slice none 0 0)]]) Ae).starPut .head
      go_roundg (gk-1)
      case measure=>omega
      case rel=>
       refine ⟨q+1,ad86,c86,GN++[⟨w12,⟨ad83,c83,p1.r.xs++p2.r.xs⟩⟩],L++[⟨ad83,c83,p1.r.xs++p2.r.xs⟩],by omega,by omega,by simp;omega,by go_num,rfl,?_,?_,fun p hp=>List.mem_append_left _ (HL2.out p hp),fun p hp=>List.mem_append_left _ (HL1.out p hp),?_⟩
       ·rw [List.map_append,HGN.out,HPK.out,←hw12,E1.out,E2.out];rfl
       ·intro p hp
        rcases List.mem_append.1 hp with hp|hp
        ·exact List.mem_append_left _ (HLN.out p hp)
        simp at hp;subst hp;simp
       rw [Jj,List.map_append]
       exact h2.sub (xs:=[own 109 2 ad86 (q+1) c86 ((GN.map DL).flatMap GG++[.int .i64 w12, .slice ad83 (p1.r.xs++p2.r.xs).length c83]),DJ a8 M c8 G2,DJ g5 N ca G1,star (L.map Sr.res++[own 3 1 ad83 (p1.r.xs++p2.r.xs).length c83 ((p1.r.xs++p2.r.xs).map (Value.int .i64))]),prt g2 [.ints (List.replicate 16 0), .val (.slice none 0 0)]]) Ae
     have hGN2:GN.map C3=CX (G2.map C3):=by rw [HGN.out,List.take_of_length_le (by rw [DY,List.length_map];omega)]
     have HGN2:=AD hGN2
     clear hGN2 HGN
     have he:=Jn (G1.map DL)
     repeat' (first
      | (refine AM 52 ?_);(refine AR (.int _ (((2*q+1:Nat):Int))) (V.as (V.addI rfl rfl (by omega)) (by omega)) (by kernel_rfl) ?_;go_step)|refine X1 ?_|refine Pm 54 ?_|refine X2 55 ?_|refine AF ?_;go_step|fail)
     repeat' (first
      | (refine AM 89 ?_);refine Aq ?_;refine Am (o:=⟨some 89,_,_,_,_,_⟩) hS _ _ 110 rfl 109 2 32 Eu _ _ _ _ rfl AS _ rfl N _ (hS.sl (show AK (DJ g5 N ca G1) _ _ from AS)) he (by unfold maxLen;omega) (by omega) ?_;clear hS;intro ad89 c89 w hS;refine AB ?_;go_step|refine X0 ?_|refine AF ?_;go_step|fail)
     rw [←OP] at hS
     obtain ⟨g89,rfl⟩:=BS hS .head (by omega)
     repeat' (first
      | (refine Av 73 ?_);refine Aw AA Tryz.call73 (DS w0 _ _ _ g89 (q+N) c89 ((GN++G1).map DL) hS .head (by omega)) ?_;rintro e w ⟨rfl,Q0,hQ1,hQ2,hS2⟩;replace hS:=hS2;clear hS2;refine A9 ?_;go_step|refine AF ?_;go_step|fail)
     obtain ⟨G3,hG3,rfl⟩:=Ji hQ1
     have hR3:BO (Ey c k) (j+2) (G3.map C3):=by
      refine BO.more HR2.out ?_ (Lh hQ2)
      have:=hG3.map C3
      rw [List.map_append,HGN2.out] at this
      exact this.trans (List.Perm.append_left _ HP1.out)
     have hL3:∀p∈G3,p.r∈L:=fun p hp=>(List.mem_append.1 (hG3.mem_iff.1 hp)).elim (HLN.out p) (HL1.out p)
     have hN3':q+N=G3.length:=by rw [hG3.length_eq,List.length_append,←hqn,←hN1]
     have HR3:=AD hR3
     have HL3:=AD hL3
     clear hQ1 hQ2 hR3 hL3 hG3
     repeat' (first
      | (refine AM 92 ?_);(refine AR (.int _ (((j+1:Nat):Int))) (V.as (V.addI rfl rfl (by omega)) (by omega)) (by kernel_rfl) ?_;go_step)|refine X1 ?_|refine AF ?_;go_step|fail)
     go_roundg (gk1-1)
     case measure=>omega
     case rel=>exact ⟨j+1,q+N,g89,c89,G3,L,by omega,hN3',by go_num,rfl,HR3.out,HL3.out,HL1.out,hS.sub Ae⟩
   obtain rfl:j=15:=by omega
   have HL2:=AD hL2
   clear hR2 hL2 hL1 HL1
   obtain ⟨Tn,hTn⟩:∃Tn,2*N-2=Tn:=⟨_,rfl⟩
   have hMc:M≤c8:=by
    have:=hS.sl (show AK (DJ a8 M c8 G2) _ _ from .head)
    obtain ⟨_,_,_,e,h1,_⟩:=this
    cases e;exact h1
   have hlong:=HR2.out.long (by rw [HNL.out];omega)
   rw [HNL.out,List.length_map,←hM] at hlong
   have hd0:N/2^(15+1-1)=0:=Nat.div_eq_of_lt (by omega)
   rw [hd0] at hlong
   have hTM:Tn≤M:=by omega
   clear hd0 hlong
   obtain ⟨f,hf⟩:∃f:Int→Nat,f=CO ((G2.map C3).take Tn):=⟨_,rfl⟩
   replace hS:=hS.sub (xs:=[DJ a8 M c8 G2,DJ g5 N ca G1,star (L.map Sr.res),prt g2 [.ints (List.replicate 16 0), .val (.slice none 0 0)]]) Ae
   repeat' (first
    | refine X2 50 ?_|refine AF ?_;go_step|fail)
   repeat' (first
    | (refine AM 97 ?_);(refine AR (.int _ (((2*N:Nat):Int))) (V.as (V.mulI rfl rfl (by omega)) (by omega)) (by kernel_rfl) ?_;go_step)|(refine AM 98 ?_);(refine AR (.int _ (((Tn:Nat):Int))) (V.as (V.subI rfl rfl (by omega)) (by omega)) (by kernel_rfl) ?_;go_step)|refine X0 ?_|refine Pm 96 ?_|(refine AM 99 ?_);(refine AY AA (V.slice Tryz.underlying110 I4 rfl (by (first|exact Lo.none|exact Lo.some rfl BW)) (by (first|exact Up.none|exact Up.some rfl BW)) (by omega) (by omega)) ?_;go_step)|refine Pm 100 ?_|(refine AM 93 ?_);(refine Aq ?_;apply DA (o:=⟨some 93,_,_,_,_,_⟩) ik hS 115 rfl;clear hS;intro g93 w hS;refine AB ?_;go_step)|refine AF ?_;go_step|fail)
   replace hS:=hS.sub (xs:=[mp ik g93 (fun _=>none),DJ a8 M c8 G2,star (L.map Sr.res),prt g2 [.ints (List.replicate 16 0), .val (.slice none 0 0)]]) Ae
   rw [FO,Nat.sub_zero,Nat.sub_zero]
   rw [←LY] at hS
   go_loopg [101] Tn (fun gk iv w=>∃(a:Nat),gk+a=Tn∧iv= .int .i64 a∧St w0 w [mp ik g93 (FM (Bi ((G2.map C3).take a))),DJ a8 M c8 G2,star (L.map Sr.res),prt g2 [.ints (List.replicate 16 0), .val (.slice none 0 0)]])
   case atStart=>exact ⟨0,by omega,rfl,hS⟩
   case round=>
    clear hS
    obtain ⟨a,ha,rfl,hS⟩:=hrel
    by_cases hlt3:a<Tn
    ·obtain ⟨gk2,hgk2⟩:∃x,x=gk:=⟨_,rfl⟩
     subst hgk2
     obtain ⟨⟨pw,pa,pcp,px⟩,hp,e1,m1⟩:=Lg G2 a (by omega)
     have hpr:(⟨pa,pcp,px⟩:Sr)∈L:=HL2.out _ hp
     have e1':AN (G2.map DL) a=⟨pw,pa,px.length,pcp⟩:=e1
     have htk:Bi ((G2.map C3).take (a+1))=Bi ((G2.map C3).take a)++px:=by
      have hlt4:a<(G2.map C3).length:=by rw [List.length_map];omega
      rw [List.take_succ_eq_append_getElem hlt4,BC,CT]
      have:(G2.map C3)[a]=C3 ⟨pw,⟨pa,pcp,px⟩⟩:=by rw [←m1];exact NE _ _ hlt4
      rw [this];simp [C3,Bi]
     have hpl:px.length≤5000:=(MC HRNG.out hn3 (by omega) HR2.out (C3 ⟨pw,⟨pa,pcp,px⟩⟩) (List.mem_map.2 ⟨_,hp,rfl⟩)).2.2
     have HTK:=AD htk
     have HPR:=AD hpr
     have E1:=AD e1'
     obtain ⟨Y,hY⟩:∃Y,Bi ((G2.map C3).take a)=Y:=⟨_,rfl⟩
     rw [hY] at hS HTK
     have HY:=AD hY
     clear htk hpr e1' e1 m1 hp hY
     have he:=BV
     repeat' (first
      | refine X2 102 ?_|(refine AM 103 ?_);(refine AY AA (V.indexSl Tryz.underlying110 I4 rfl rfl BW (by omega) rfl Br) ?_;go_step)|(with_reducible refine Al _ (.load 109 _) ?_);(refine Aq ?_;apply Il hS 109 _ rfl _ _ rfl 2 (Ad rfl) _ _ _ _ _;(case hp=>exact AS);(case inst=>infer_instance);(case he=>with_reducible assumption);(case hq=>exact rfl);(case hj=>omega);refine AB ?_;go_step)|(refine AM 13 ?_);(refine Aq ?_;apply CU (o:=⟨some 13,_,_,_,_,_⟩) hS 109 rfl (.agg #[.int .i64 0, .slice none 0 0]) [.int .i64 0, .slice none 0 0] (fun w=>Tryz.zeroValue109 w) rfl;clear hS;intro g13 w hS;refine AB ?_;go_step)|(with_reducible refine Al _ (.store 109 _ _) ?_);(refine Aq ?_;apply CH hS 109 _ _ rfl _ rfl 2 (Ad rfl) _ _;(case hp=>exact AS);(case hy=>rfl);(case hn=>rfl);(case hn'=>rfl);(case hv=>rfl);(case hd=>exact rfl);clear hS;intro w hS)|refine AF ?_;go_step|fail)
     rw [E1.out] at hS
     have hYl:Y.length≤5000:=by
      have h1:=HR2.out.syll
      rw [Hg,HNL.out] at h1
      have h2:Bi (G2.map C3)=Bi ((G2.map C3).take a)++Bi ((G2.map C3).drop a):=by rw [←BC,List.take_append_drop]
      rw [h2,List.length_append,HY.out] at h1
      omega
     repeat' (first
      | refine X1 ?_|(refine AM 105 ?_);(refine AY AA (V.fieldAddr G5 rfl Br) ?_;go_step)|refine J4 107 ?_|(with_reducible refine Al _ (.load 46 _) ?_);(refine Aq ?_;apply Bp hS 46 _ rfl _ _ rfl (Ac rfl) _;(case hp=>exact AS);(case hc=>rfl);refine AB ?_;go_step)|refine AF ?_;go_step|fail)
     replace hS:=hS.sub (xs:=[mp ik g93 (FM Y),DJ a8 M c8 G2,star (L.map Sr.res),prt g2 [.ints (List.replicate 16 0), .val (.slice none 0 0)]]) Ae
     go_loopg [108] px.length (fun gk iv w=>∃(b:Nat),gk+b=px.length∧iv= .int .i64 b∧St w0 w [mp ik g93 (FM (Y++px.take b)),DJ a8 M c8 G2,star (L.map Sr.res),prt g2 [.ints (List.replicate 16 0), .val (.slice none 0 0)]])
     case atStart=>exact ⟨0,by omega,rfl,by rw [List.take_zero,List.append_nil];exact hS⟩
     case round=>
      clear hS
      obtain ⟨b,hb,rfl,hS⟩:=hrel
      by_cases hlt4:b<px.length
      ·have hrow:Sl wr 1 (.slice pa px.length pcp) px.length (px.map (Value.int .i64)):=Fk hS (show AK (star (L.map Sr.res)) _ _ from AS) HPR.out
       obtain ⟨_,a1,c1,e1,_,_,hor⟩:=hrow
       cases e1
       rcases hor with h0|⟨b0,o0,rfl,hc⟩
       ·omega
       have hcw:=hc b (by omega)
       rw [List.getElem?_map,Bv px b hlt4] at hcw
       replace hcw:wr.cell? ⟨b0,o0+b,none⟩=some (.int .i64 (AG px b)):=hcw
       have htk2:Y++px.take (b+1)=(Y++px.take b)++[AG px b]:=by
        rw [List.take_succ_eq_append_getElem hlt4,List.append_assoc]
        simp [AG,List.getD,hlt4]
       have hZl:(Y++px.take b).length≤10000:=by rw [List.length_append,List.length_take];omega
       obtain ⟨s,hs⟩:∃s,AG px b=s:=⟨_,rfl⟩
       obtain ⟨Z,hZ⟩:∃Z,Y++px.take b=Z:=⟨_,rfl⟩
       rw [hs] at hcw htk2
       rw [hZ] at htk2 hZl hS
       have hcl2:=List.count_le_length (a:=s) (l:=Z)
       obtain ⟨m,hm⟩:∃m,Z.count s=m:=⟨_,rfl⟩
       have HTK2:=AD htk2
       have HSN:=AD (KB Z s)
       rw [hm] at hcl2 HSN
       have hfe:FM Z s=if m=0 then none else some (.int .i64 (m:Nat)):=by rw [←hm];rfl
       clear hs hZ htk2 hc hm
       repeat' (first
        | (refine AM 111 ?_);refine Aq ?_;refine Ea (o:=⟨some 111,_,_,_,_,_⟩) 3 _ rfl _ rfl (Ac rfl) _ hcw ?_;refine AB ?_;go_step|refine X0 ?_|refine X2 109 ?_|refine Pj 110 ?_|refine AF ?_;go_step|fail)
       by_cases hm0:m=0
       ·rw [if_pos hm0] at hfe
        repeat' (first
         | (refine AM 115 ?_);(refine AR (.int _ (((m+1:Nat):Int))) (V.as (V.addI rfl rfl (by omega)) (by omega)) (by kernel_rfl) ?_;go_step)|(refine AM 116 ?_);(refine AR (.int _ (((b+1:Nat):Int))) (V.as (V.addI rfl rfl (by omega)) (by omega)) (by kernel_rfl) ?_;go_step)|refine X1 ?_|refine P2 114 ?_|refine Ps ?_;clear hS;intro w hS|refine AF ?_;go_step|fail)
        rw [HSN.out] at hS
        go_roundg (gk-1)
        case measure=>omega
        case rel=>exact ⟨b+1,by omega,by go_num,by rw [HTK2.out];exact hS⟩
       rw [if_neg hm0] at hfe
       repeat' (first
        | (refine AM 115 ?_);(refine AR (.int _ (((m+1:Nat):Int))) (V.as (V.addI rfl rfl (by omega)) (by omega)) (by kernel_rfl) ?_;go_step)|(refine AM 116 ?_);(refine AR (.int _ (((b+1:Nat):Int))) (V.as (V.addI rfl rfl (by omega)) (by omega)) (by kernel_rfl) ?_;go_step)|refine X1 ?_|refine P3 114 ?_|refine Ps ?_;clear hS;intro w hS|refine AF ?_;go_step|fail)
       rw [HSN.out] at hS
       go_roundg (gk-1)
       case measure=>omega
       case rel=>exact ⟨b+1,by omega,by go_num,by rw [HTK2.out];exact hS⟩
      obtain rfl:b=px.length:=by omega
      rw [List.take_length,←HTK.out] at hS
      repeat' (first
       | refine X2 109 ?_|refine AF ?_;go_step|fail)
      repeat' (first
       | (refine AM 117 ?_);(refine AR (.int _ (((a+1:Nat):Int))) (V.as (V.addI rfl rfl (by omega)) (by omega)) (by kernel_rfl) ?_;go_step)|refine X1 ?_|refine AF ?_;go_step|fail)
      go_roundg (gk2-1)
      case measure=>omega
      case rel=>exact ⟨a+1,by omega,by go_num,hS⟩
    obtain rfl:a=Tn:=by omega
    have HFE:Hid (∀s,FM (Bi ((G2.map C3).take a)) s=if f s=0 then none else some (.int .i64 (f s:Nat))):=fun s=>by rw [hf];rfl
    obtain ⟨F,hF⟩:∃F,FM (Bi ((G2.map C3).take a))=F:=⟨_,rfl⟩
    rw [hF] at hS HFE
    have hf16:∀s,f s≤5000:=fun s=>by
     rw [hf]
     have h1:=HR2.out.syll
     rw [Hg,HNL.out] at h1
     have h2:Bi (G2.map C3)=Bi ((G2.map C3).take a)++Bi ((G2.map C3).drop a):=by rw [←BC,List.take_append_drop]
     rw [h2,List.length_append] at h1
     have h3:=List.count_le_length (a:=s) (l:=Bi ((G2.map C3).take a))
     unfold CO
     omega
    have HF16:=AD hf16
    have HFF:Hid (f=CO ((G2.map C3).take (2*(Ey c k).length-2))):=by unfold Hid;rw [HNL.out,hTn];exact hf
    clear hF hf hf16
    replace hS:=hS.sub (xs:=[mp ik g93 F,prt g2 [.ints (List.replicate 16 0), .val (.slice none 0 0)]]) Ae
    repeat' (first
     | refine X2 102 ?_|refine AF ?_;go_step|fail)
    repeat' (first
     | refine X1 ?_|refine Ow 16 ?_;clear hS;intro g16 w hS|refine AF ?_;go_step|fail)
    replace hS:=((hS.sub (xs:=[mp ik g93 F,prt g2 [.ints (List.replicate 16 0), .val (.slice none 0 0)],prt g16 [.ints (List.replicate 16 0), .val (.slice none 0 0)]]) Ae).nilk 3 1 .i64)
    go_loopg [118] 16 (fun gk iv w=>∃(q ls:Nat) (C S:List Int) (ao:Option Addr) (co:Nat),gk+q=16∧iv= .int .i64 q∧ls=S.length∧A2 C 16∧(∀i,i<16→AG C i=Dm f k q 0 i)∧S=BY f k q∧St w0 w [own 3 1 ao ls co (S.map (Value.int .i64)),mp ik g93 F,prt g2 [.ints (List.replicate 16 0), .val (.slice none 0 0)],prt g16 [.ints C, .val (.slice ao ls co)]])
    case atStart=>exact ⟨0,0,List.replicate 16 0,[],none,0,by omega,rfl,rfl,A2.rep,fun i hi=>by rw [GW];unfold Dm;rw [if_neg (by omega)];split<;>rfl,rfl,hS⟩
    case round=>
     clear hS
     obtain ⟨q,ls,C,S,ao,co,hq,rfl,hls,hC,hCn,hSe,hS⟩:=hrel
     have HCN:=AD hCn
     have HSE:=AD hSe
     clear hCn hSe
     by_cases hlt5:q<16
     ·obtain ⟨gk3,hgk3⟩:∃x,x=gk:=⟨_,rfl⟩
      subst hgk3
      have HLS:Hid (S.length≤16*256):=by
       unfold Hid
       rw [HSE.out]
       have h1:=JH f k q
       have h2:q*k≤16*256:=Nat.mul_le_mul (by omega) (by omega)
       omega
      repeat' (first
       | refine X0 ?_|refine X2 119 ?_|refine J4 122 ?_|refine AF ?_;go_step|fail)
      go_loopg [123] k (fun gk iv w=>∃(s ls:Nat) (C S':List Int) (ao:Option Addr) (co:Nat),gk+s=k∧iv= .int .i64 s∧ls=S'.length∧A2 C 16∧(∀i,i<16→AG C i=Dm f k q s i)∧S'=S++A6 f s (q+1)∧St w0 w [own 3 1 ao ls co (S'.map (Value.int .i64)),mp ik g93 F,prt g2 [.ints (List.replicate 16 0), .val (.slice none 0 0)],prt g16 [.ints C, .val (.slice ao ls co)]])
      case atStart=>exact ⟨0,ls,C,S,ao,co,by omega,rfl,hls,hC,HCN.out,by simp [A6],hS⟩
      case round=>
       clear hS hC HCN
       obtain ⟨s,ls,C,S',ao,co,hs,rfl,hls2,hC,hCn,hSe,hS⟩:=hrel
       have HCN:=AD hCn
       have HSE2:=AD hSe
       have hS'l:ls≤10000:=by
        rw [hls2,hSe,List.length_append]
        have:=Df f s (q+1)
        have:=HLS.out
        omega
       clear hCn hSe
       by_cases hlt6:s<k
       ·have hfe:=HFE.out (s:Int)
        have hf5:=HF16.out (s:Int)
        obtain ⟨fs,hfs⟩:∃fs,f (s:Int)=fs:=⟨_,rfl⟩
        rw [hfs] at hfe hf5
        have hsk:=D4 f s (q+1)
        rw [hfs] at hsk
        by_cases hfq:fs=q+1
        ·rw [if_neg (by omega)] at hfe
         rw [if_pos hfq] at hsk
         have hnq:=HCN.out q hlt5
         have hbq:AG C q=((A6 f s (q+1)).length:Nat):=by
          rw [hnq];unfold Dm;rw [if_neg (by omega),if_pos rfl]
         have hbl:=Df f s (q+1)
         have HSK:=AD hsk
         have HBQ:=AD hbq
         have hbb:0≤AG C q∧AG C q≤256:=by rw [hbq];omega
         clear hsk hfs hnq hbq hbl
         repeat' (first
          | refine Pf 130 ?_|refine X0 ?_|refine X2 124 ?_|refine K9 131 ?_|refine P3 128 ?_|refine AF ?_;go_step|fail)
         repeat' (first
          | refine X1 ?_|(refine AM 133 ?_);(refine AY AA (V.fieldAddr I0 rfl Br) ?_;go_step)|(refine AM 134 ?_);(refine AY AA (V.indexAr Tryz.underlying83 BX rfl rfl BW (by omega) (Nat.mul_one _) Br) ?_;go_step)|refine Ph 136 ?_|(refine AM 137 ?_);(refine AY AA (V.fieldAddr I0 rfl Br) ?_;go_step)|(refine AM 138 ?_);(refine AY AA (V.indexAr Tryz.underlying83 BX rfl rfl BW (by omega) (Nat.mul_one _) Br) ?_;go_step)|(refine AM 139 ?_);(refine AY AA (V.fieldAddr I1 rfl Br) ?_;go_step)|(refine AM 144 ?_);(refine AY AA (V.fieldAddr I1 rfl Br) ?_;go_step)|(with_reducible refine Al _ (.load 3 _) ?_);(refine Aq ?_;apply Ky hS 3 _ rfl _ _ rfl (Ac rfl) _;(case hp=>exact AS);(case hi=>(repeat (first|(apply LE.head;(case hn=>exact F1);(case h=>omega))|(apply LE.skipI;(case hn=>exact F1);(case h=>omega);(case ho=>rfl))|apply LE.skipV)));refine AB ?_;go_step)|refine QT ?_;clear hS;intro w hS|refine Pa ?_|refine PS 142 ?_;clear hS;intro g142 w hS|refine PU 143 ?_;clear hS;intro ad143 c143 w hS|(with_reducible refine Al _ (.store 46 _ _) ?_);(refine Aq ?_;apply JW hS 46 _ _ rfl _ _ rfl (Ac rfl) _ _;(case hp=>exact AS);(case hy=>exact Dz);(case hz=>rfl);(case hi=>(repeat (first|exact FF.head|(apply FF.skipI;(case hn=>exact F1);(case h=>omega);(case ho=>rfl))|apply FF.skipV)));(case hd=>exact rfl);clear hS;intro w hS)|refine AF ?_;go_step|fail)
         repeat' (first
          | refine P7 145 ?_|refine X1 ?_|refine AF ?_;go_step|fail)
         go_roundg (gk-1)
         case measure=>omega
         case rel=>
          refine ⟨s+1,ls+1,C.set q (AG C q+1),S'++[(s:Int)],ad143,c143,by omega,by go_num,by rw [List.length_append,←hls2];rfl,hC.set,fun i hi=>?_,by rw [HSE2.out,HSK.out,List.append_assoc],hS.sub Ae⟩
          rw [EM _ _ _ _ (by rw [hC.out];exact hlt5)]
          unfold Dm
          by_cases hiq:q=i
          ·subst hiq
           rw [if_pos rfl,if_neg (by omega),if_pos rfl,HSK.out,HBQ.out,List.length_append];rfl
          rw [if_neg hiq,HCN.out i hi]
          unfold Dm
          by_cases hi2:i<q
          ·rw [if_pos hi2,if_pos hi2]
          rw [if_neg hi2,if_neg hi2,if_neg (by omega),if_neg (by omega)]
        rw [if_neg hfq] at hsk
        have HSK:=AD hsk
        have HN2:Hid (∀i,i<16→AG C i=Dm f k q (s+1) i):=fun i hi=>by
         rw [HCN.out i hi]
         unfold Dm
         by_cases hi2:i<q
         ·rw [if_pos hi2,if_pos hi2]
         by_cases hi3:i=q
         ·subst hi3;rw [if_neg hi2,if_neg hi2,if_pos rfl,if_pos rfl,hsk]
         rw [if_neg hi2,if_neg hi2,if_neg hi3,if_neg hi3]
        clear hsk hfs
        by_cases hf0:fs=0
        ·rw [if_pos hf0] at hfe
         repeat' (first
          | refine Pf 130 ?_|refine X0 ?_|refine X2 124 ?_|refine K9 131 ?_|refine P2 128 ?_|refine AF ?_;go_step|fail)
         repeat' (first
          | refine P7 145 ?_|refine X1 ?_|refine AF ?_;go_step|fail)
         go_roundg (gk-1)
         case measure=>omega
         case rel=>exact ⟨s+1,ls,C,S',ao,co,by omega,by go_num,hls2,hC,HN2.out,by rw [HSE2.out,HSK.out],hS.sub Ae⟩
        rw [if_neg hf0] at hfe
        repeat' (first
         | refine Pf 130 ?_|refine X0 ?_|refine X2 124 ?_|refine K9 131 ?_|refine P3 128 ?_|refine AF ?_;go_step|fail)
        repeat' (first
         | refine P7 145 ?_|refine X1 ?_|refine AF ?_;go_step|fail)
        go_roundg (gk-1)
        case measure=>omega
        case rel=>exact ⟨s+1,ls,C,S',ao,co,by omega,by go_num,hls2,hC,HN2.out,by rw [HSE2.out,HSK.out],hS.sub Ae⟩
       obtain rfl:s=k:=by omega
       repeat' (first
        | refine X2 124 ?_|refine AF ?_;go_step|fail)
       repeat' (first
        | refine Pf 146 ?_|refine X1 ?_|refine AF ?_;go_step|fail)
       go_roundg (gk3-1)
       case measure=>omega
       case rel=>
        refine ⟨q+1,ls,C,S',ao,co,by omega,by go_num,hls2,hC,fun i hi=>?_,by rw [HSE2.out,HSE.out,Bf],hS⟩
        rw [HCN.out i hi]
        unfold Dm
        by_cases hi2:i<q
        ·rw [if_pos hi2,if_pos (by omega)]
        by_cases hi3:i=q
        ·subst hi3;rw [if_neg hi2,if_pos rfl,if_pos (by omega)]
        rw [if_neg hi2,if_neg hi3,if_neg (by omega)]
        split<;>rfl
     obtain rfl:q=16:=by omega
     have hCf:∀i,i<16→AG C i=((A6 f k (i+1)).length:Nat):=fun i hi=>by
      rw [HCN.out i hi];unfold Dm;rw [if_pos hi]
     have HCF:=AD hCf
     clear hCf HCN
     repeat' (first
      | refine X2 119 ?_|refine AF ?_;go_step|fail)
     repeat' (first
      | refine X7 ?_|refine Mj ?_|refine PT ?_;clear hS;intro w hS|refine AF ?_;go_step|fail)
     refine AI (xs:=[_,_]) rfl (.cons (AC.prt hS rfl (Ad (n:=17) rfl) AS (by (repeat (first|exact Es.nil|(apply Es.ints;(case hn=>exact F1);(case h=>omega);(case hm=>rfl))|apply Es.val)))) (.cons (AC.tmp rfl) (.nil))) (by simp) rfl ?_
     exact ⟨f,G2.map C3,C,S,ao,co,HR2.out,HFF.out,hC,HCF.out,HSE.out,by rw [←hls];rfl,by rw [←hls];exact hS.sub Ae⟩
end Go.Proofs.YtngojkompmcceaaGreatDoor
