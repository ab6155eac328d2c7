/- The law FrameGray: its walk, and the statement. -/
import Derived.Test.YtohacgmhmbijmaaGreatDoorBaseNZ2
import Derived.Test.YtohacgmhmbijmaaGreatDoorBaseNZ3
import Derived.Test.YtohacgmhmbijmaaGreatDoorBaseNZ4
import Derived.Test.YtohacgmhmbijmaaGreatDoorBaseNZ5
import Derived.Test.YtohacgmhmbijmaaGreatDoorBaseNZ18
import Derived.Test.YtohacgmhmbijmaaGreatDoorRows
import Derived.Test.YtohacgmhmbijmaaGreatDoorCards
import Derived.Test.YtohacgmhmbijmaaGreatDoorTie
import Derived.Deep.DeepHandedRow
import Derived.Lay
import Derived.SevenTiedAt
namespace Go.Proofs.YtohacgmhmbijmaaGreatDoor
attribute [local irreducible] Region.wanted
open Go.ChangeShapes Go.WideShapes Go.ChangeAt Go.RowKit
set_option linter.unusedVariables false
set_option maxRecDepth 100000
set_option maxHeartbeats 8000000
theorem Lv{H:Type}{enc:TypeId×Value→H}{d0 d1 d2 d3:DataW H}{p0 p1 p2 p3:List MemPlace}{v0 v1 v2 v3:Value}{base:Nat}(W:World)
 (o0:Value.okWide Tryz.prog W .any base 30 v0) (h0:DataW.Trod enc Tryz.prog W 0 (fun _=>true) true 30 v0 d0 p0) (lt0:∀x∈p0,x.block<W.heap.size)
 (o1:Value.okWide Tryz.prog W .any base 3 v1) (h1:DataW.Trod enc Tryz.prog W 0 (fun _=>true) true 3 v1 d1 p1) (lt1:∀x∈p1,x.block<W.heap.size)
 (o2:Value.okWide Tryz.prog W .any base 3 v2) (h2:DataW.Trod enc Tryz.prog W 0 (fun _=>true) true 3 v2 d2 p2) (lt2:∀x∈p2,x.block<W.heap.size)
 (o3:Value.okWide Tryz.prog W .any base 26 v3) (h3:DataW.Trod enc Tryz.prog W 0 (fun _=>true) true 26 v3 d3 p3) (lt3:∀x∈p3,x.block<W.heap.size)
 (hsh:W.ShapedOpen Tryz.prog):
 Calls Tryz.prog 6 #[v0,v1,v2,v3] W fun e w'=>e= .returned (.bool true)∧Ah W w':=by
 obtain ⟨n,ns,hnl,hv,hw⟩:=JU .i64 Tryz.underlying30 1 AA 1 AA (by omega) o0 h0
 obtain ⟨z1,rfl,_,_⟩:=Dw Tryz.underlying3 o1 h1
 obtain ⟨z2,rfl,_,_⟩:=Dw Tryz.underlying3 o2 h2
 obtain ⟨q,hq,rfl,_⟩:=JT o3
 have hml:∃m,W.cell? ⟨0,0,none⟩=some (.int .i64 m):=Tryz.laysM185.s1_3 W hsh
 clear o0 h0 lt0 o1 h1 lt1 o2 h2 lt2 o3 h3 lt3 hw hsh
 obtain ⟨ad,cp,rfl,hnc,hcm⟩:∃ad c,v0= .slice ad n c∧n≤c∧c≤9223372036854775807:=by
  obtain ⟨_,ad,c,h1,h2,h3,_⟩:=hv
  exact ⟨ad,c,h1,h2,by unfold maxLen at h3;exact h3⟩
 obtain ⟨m,hm⟩:∃m,z1%64+1=m:=⟨_,rfl⟩
 obtain ⟨h,hh⟩:∃h,z2%64+1=h:=⟨_,rfl⟩
 have m0:1≤m∧m≤64:=by omega
 have m1:1≤h∧h≤64:=by omega
 obtain ⟨k0,k1⟩:=Dv m h 64 64 (by omega) (by omega)
 have k2:0<m*h:=Int.mul_pos (by omega) (by omega)
 obtain ⟨M,hM⟩:∃M:Nat,m*h=(M:Int):=⟨(m*h).toNat,by omega⟩
 have hMs:M≤4096:=by omega
 have hS:=St.start W
 have HM:=AD hm
 have HH:=AD hh
 have HML:=AD hml
 have HMM:=AD hM
 clear hm hh hml
 have hqL:Ae q 64:=hq
 go_enter Tryz.func6,Tryz.ntmps6
 repeat' (first
  | refine gm 25 ?_|(refine Am 15 ?_);refine An AA Tryz.call15 (GR _ (HML.out.imp fun m h=>hS.1.cell h)) (Fq hS ?_);clear hS;intro w hS;go_step|(refine Am 25 ?_);refine An AA Tryz.call25 (H6 _ z1 z2) ?_;rintro e w' ⟨rfl,rfl⟩;rw [HM.out,HH.out];refine Ab ?_;go_step|(refine Am 26 ?_);refine An AA Tryz.call26 (Hc _ _ n _ M ns (by omega) (by omega) (hv.ext hS.1)) ?_;rintro e w ⟨a9,c9,p,rfl,hpl,hp,hS2⟩;replace hS:=hS.call1 hS2;clear hS2;have HP:=AD hp;have HPL:=AD hpl;clear hp hpl;refine Ab ?_;go_step|refine X0 ?_|refine T7 15 ?_|refine X3 20 ?_|refine X3 21 ?_|refine L7 7 ?_;clear hS;intro g7 w hS|refine AG ?_;go_step|fail)
 all_goals (try exact AS)
 obtain ⟨x,hxl,hx⟩:=ZA (m:=m) (h:=h) (q:=q) (s:=p) ⟨m0.1,m0.2,m1.1,m1.2⟩ HMM.out.symm hq HPL.out fun i _=>HP.out i
 have hC:∀w g,A8 w (some ⟨g,0,none⟩) 3 (List.replicate 3 ⟨a9,c9,p⟩)→Calls Tryz.prog 17 #[.agg #[.int .i64 m, .int .i64 h, .slice (some ⟨g,0,none⟩) 3 3], .agg (iv q), .int .i64 5] w (Dp w (DM m h q [p,p,p] (5:Nat)) m h q 3 (5:Nat) (FX m h q [p,p,p]) (3*Aa m h)):=
  fun w g hP=>LX w m h (by omega) (some ⟨g,0,none⟩) 3 _ (by show 3≤9223372036854775807;omega) hP q hq 5 (by decide)
 have hD:DM m h q [p,p,p] (5:Nat)=0→eg m h 3 q (FX m h q [p,p,p]) (3*Aa m h) 5 [x,x,x]:=fun h0=>by
  have:=O7 (ev:=5) hq (by decide) (Wt h0)
  rw [show [p,p,p].length=3 from rfl,hx] at this
  exact this
 obtain ⟨E,hE⟩:∃E,DM m h q [p,p,p] (5:Nat)=E:=⟨_,rfl⟩
 obtain ⟨B,hBe⟩:∃B,FX m h q [p,p,p]=B:=⟨_,rfl⟩
 obtain ⟨nb,hnb⟩:∃nb,3*Aa m h=nb:=⟨_,rfl⟩
 rw [hE,hBe,hnb] at hC hD
 clear hE hx hBe hnb
 by_cases hE0:E=0
 case neg=>
  have HC:=AD fun w g hP=>(hC w g hP).mono fun e w' hh=>hh.1 hE0
  clear hC hD
  repeat' (first
   | (refine AQ 36 ?_);refine AL (f:=17) Tryz.call17 AA ?_;refine ⟨_,(HC.out _ g33 (Cr (cs:=[.slice a9 M c9, .slice a9 M c9, .slice a9 M c9]) hS AM rfl HPL.out (by decide) (hS.sl AM))),?_⟩;rintro e w ⟨rfl,hE⟩;unfold gz;replace hS:=hS.ext hE;clear hE;refine Ab ?_;go_step|refine X0 ?_|refine YG 34 ?_|refine X3 37 ?_|refine X3 38 ?_|refine Gq 40 ?_|refine bu 33 ?_;clear hS;intro g33 w hS|refine Hp ?_|refine XX 10 ?_;clear hS;intro g10 w hS|refine SP ?_;clear hS;intro w hS|refine AG ?_;go_step|fail)
  all_goals (try exact AS)
  all_goals
   go_ret
   exact ⟨rfl,hS.1⟩
 subst hE0
 have HC:=AD fun w g hP=>(hC w g hP).mono fun e w' hh=>hh.out
 have HD:=AD (hD rfl)
 have HXL:=AD hxl
 clear hC hD hxl
 repeat' (first
  | (refine AQ 36 ?_);refine AL (f:=17) Tryz.call17 AA ?_;refine ⟨_,(HC.out _ g33 (Cr (cs:=[.slice a9 M c9, .slice a9 M c9, .slice a9 M c9]) hS AM rfl HPL.out (by decide) (hS.sl AM))),?_⟩;rintro e w ⟨C1,S1,C2,S2,D,a1,a2,bd,n1,k1,n2,k2,nd,kd,hen,rfl,hS2⟩;replace hS:=hS.call hS2;clear hS2;simp only [List.cons_append,List.nil_append] at hS;have hC1:=hen.l1;have hC2:=hen.l2;have HEN:=AD hen;clear hen;refine Ab ?_;go_step|refine X0 ?_|refine YG 34 ?_|refine X3 37 ?_|refine X3 38 ?_|refine Gq 40 ?_|refine bu 33 ?_;clear hS;intro g33 w hS|refine Hp ?_|refine XX 10 ?_;clear hS;intro g10 w hS|refine SP ?_;clear hS;intro w hS|refine AG ?_;go_step|fail)
 all_goals (try exact AS)
 all_goals (try (have hF:False:=(hB rfl);cases hF))
 repeat' (first
  | (refine Am 21 ?_);refine An AA Tryz.call21 (HD.out _ C1 S1 C2 S2 D a1 a2 bd n1 k1 n2 k2 nd kd (HML.out.imp fun m h=>hS.1.cell h) HEN.out (hS.sl AM) (hS.sl AM) (hS.sl AM)) ?_;rintro e w ⟨a5,c5,R5,hR5,rfl,hP9⟩;replace hS:=hS.call hP9;clear hP9;simp only [List.cons_append,List.nil_append] at hS;have HR5:=AD hR5;clear hR5;refine Ab ?_;go_step|refine X0 ?_|refine X3 44 ?_|refine X3 45 ?_|refine SD ?_|refine Tz 12 ?_;clear hS;intro g12 w hS|refine T2 ?_;clear hS;intro w hS|refine AG ?_;go_step|fail)
 have hPI:=A8.of (a:=a5) (c:=c5) (R:=R5) hS AM AM
 have h12:w.cell? ⟨g12,2,none⟩=some (.slice a5 R5.length c5):=Fv (g:=g12) (k:=2) hS AM rfl
 have hE9:=hS.1
 obtain ⟨b0,b1,b2,u0,u1,u2,rfl⟩:=kJ HR5.out
 obtain ⟨bb,off,rfl,hcl⟩:=DV hPI.sl (by show 0<3;omega)
 have h12':w.cell? ⟨g12,2,none⟩=some (.slice (some ⟨bb,off,none⟩) 3 c5):=h12
 clear h12
 have x0:w.cell? ⟨bb,off,none⟩=some (.slice b0 M u0):=by have:=hcl 0 _ rfl;rw [Rw.val,HXL.out] at this;exact this
 have x1:w.cell? ⟨bb,off+1,none⟩=some (.slice b1 M u1):=by have:=hcl 1 _ rfl;rw [Rw.val,HXL.out] at this;exact this
 have x2:w.cell? ⟨bb,off+2,none⟩=some (.slice b2 M u2):=by have:=hcl 2 _ rfl;rw [Rw.val,HXL.out] at this;exact this
 have r0:=hPI.row ⟨b0,u0,x⟩ (by simp)
 have r1:=hPI.row ⟨b1,u1,x⟩ (by simp)
 have r2:=hPI.row ⟨b2,u2,x⟩ (by simp)
 rw [Rw.val] at r0 r1 r2
 dsimp only at r0 r1 r2
 have HEQ1:Hid (∀w',Ah w w'→Calls Tryz.prog 29 #[.slice b0 M u0, .slice b1 M u1] w' fun e w''=>e= .returned (.bool true)∧w'=w''):=AD fun w' hx=>by
  rw [←HXL.out]
  refine (KK w' _ _ x x (r0.ext hx) (r1.ext hx)).mono fun e w'' hh=>?_
  rw [decide_eq_true rfl] at hh
  exact hh
 have HEQ2:Hid (∀w',Ah w w'→Calls Tryz.prog 29 #[.slice b1 M u1, .slice b2 M u2] w' fun e w''=>e= .returned (.bool true)∧w'=w''):=AD fun w' hx=>by
  rw [←HXL.out]
  refine (KK w' _ _ x x (r1.ext hx) (r2.ext hx)).mono fun e w'' hh=>?_
  rw [decide_eq_true rfl] at hh
  exact hh
 clear hS hPI hcl r0 r1 r2 HEN HD HC hC1 hC2 hv
 obtain ⟨W1,hW1⟩:∃z,z=w:=⟨w,rfl⟩
 subst hW1
 have hS:=St.start W1
 refine AP [28] (fun w=>St W1 w []) AA ?_
 replace hS:=hS.drew
 focus
  refine AY 0 ?_
  (refine VK 1 _ Ai AA AA AA B5 (V.eql rfl rfl) AA (fun hB=>?_) (fun hB=>?_))
  rotate_left 1
  focus
   (try exact AS)
   all_goals
    go_step
    refine AY 2 ?_
    refine DX 3 ?_
    refine DX 4 ?_
    refine DX 5 ?_
    refine DX 6 ?_
    refine EM 7 Ai AA AA AA B5 rfl AA ?_
    go_step
    refine AY 8 ?_
    refine DX 9 ?_
    refine DX 10 ?_
    refine DX 11 ?_
    refine DX 12 ?_
    refine DX 13 ?_
    refine DX 14 ?_
    refine DX 15 ?_
    refine DX 16 ?_
    refine DX 17 ?_
    refine EM 18 Ai AA AA AA B5 rfl AA ?_
    go_step
    refine AY 19 ?_
    refine DX 20 ?_
    refine DX 21 ?_
    refine DX 22 ?_
    refine DX 23 ?_
    refine DX 24 ?_
    refine DX 25 ?_
    refine DX 26 ?_
    refine DX 27 ?_
    refine DX 28 ?_
    refine EM 29 Ai AA AA AA B5 rfl AA ?_
    go_step
    refine AY 30 ?_
    refine AE AA ?_ _
  rotate_right 1
  focus
   (try exact AS)
   all_goals
    go_step
    refine AY 2 ?_
    refine gt 3 ?_
    refine jy 4 [5,6,7,8,9,10,11,12,13,14,15,16,17,18,19,20,21,22,23,24,25,26,27,28,29,30] ?_
    refine CA 5 BZ (V.len Tryz.underlying22 rfl) ?_;go_step
    (refine VK 6 _ Ai AA AA AA B5 (V.eql rfl rfl) AA (fun hB=>?_) (fun hB=>?_))
    rotate_left 1
    focus
     (try exact AS)
     all_goals
      go_step
      refine GC 7 Ai AA AA AA B5 rfl AA ?_
      go_step
      refine AY 8 ?_
      refine DX 9 ?_
      refine DX 10 ?_
      refine DX 11 ?_
      refine DX 12 ?_
      refine DX 13 ?_
      refine DX 14 ?_
      refine DX 15 ?_
      refine DX 16 ?_
      refine DX 17 ?_
      refine EM 18 Ai AA AA AA B5 rfl AA ?_
      go_step
      refine AY 19 ?_
      refine DX 20 ?_
      refine DX 21 ?_
      refine DX 22 ?_
      refine DX 23 ?_
      refine DX 24 ?_
      refine DX 25 ?_
      refine DX 26 ?_
      refine DX 27 ?_
      refine DX 28 ?_
      refine EM 29 Ai AA AA AA B5 rfl AA ?_
      go_step
      refine AY 30 ?_
      refine AE AA ?_ _
    rotate_right 1
    focus
     (try exact AS)
     all_goals
      go_step
      refine GC 7 Ai AA AA AA B5 rfl AA ?_
      go_step
      refine AY 8 ?_
      refine gt 9 ?_
      refine jy 10 [11,12,17,18,19,20,21,22,23,24,25,26,27,28,29,30] ?_
      refine ke 11 ?_
      refine cZ 12 [17,18,19,20,21,22,23,24,25,26,27,28,29,30] ?_
      refine gt 13 ?_
      refine jy 14 [15,16,17,18,19,20,21,22,23,24,25,26,27,28,29,30] ?_
      refine kW 15 ?_
      refine cZ 16 [17,18,19,20,21,22,23,24,25,26,27,28,29,30] ?_
      refine Ao 17 ?_
      refine AR (f:=29) rfl Tryz.call29 (HEQ1.out _ hS.1) ?_;rintro e w' ⟨rfl,rfl⟩;refine ⟨_,rfl,?_⟩
      refine ⟨fun _ _=>hS.sub AV,?_⟩
      refine AI ?_
      go_step
      refine GC 18 Ai AA AA AA B5 rfl AA ?_
      go_step
      refine AY 19 ?_
      refine gt 20 ?_
      refine jy 21 [22,23,28,29,30] ?_
      refine kW 22 ?_
      refine cZ 23 [28,29,30] ?_
      refine gt 24 ?_
      refine jy 25 [26,27,28,29,30] ?_
      refine kf 26 ?_
      refine cZ 27 [28,29,30] ?_
      refine Ao 28 ?_
      refine AR (f:=29) rfl Tryz.call29 (HEQ2.out _ hS.1) ?_;rintro e w' ⟨rfl,rfl⟩;refine ⟨_,rfl,?_⟩
      refine ⟨fun h=>absurd (by decide) h,?_⟩
      refine AI ?_
      go_step
      refine GC 29 Ai AA AA AA B5 rfl AA ?_
      go_step
      refine AY 30 ?_
      refine AE AA ?_ _
 all_goals
  repeat' (first|(refine AG ?_;go_step)|fail)
  go_ret
  exact ⟨rfl,hE9.trans hS.1⟩
def DA:Array Value:=#[.slice none 0 0, .int .i64 0, .int .i64 0, .agg #[.int .i64 0, .int .i64 0, .int .i64 0, .int .i64 0, .int .i64 0, .int .i64 0, .int .i64 0, .int .i64 0, .int .i64 0, .int .i64 0, .int .i64 0, .int .i64 0, .int .i64 0, .int .i64 0, .int .i64 0, .int .i64 0, .int .i64 0, .int .i64 0, .int .i64 0, .int .i64 0, .int .i64 0, .int .i64 0, .int .i64 0, .int .i64 0, .int .i64 0, .int .i64 0, .int .i64 0, .int .i64 0, .int .i64 0, .int .i64 0, .int .i64 0, .int .i64 0, .int .i64 0, .int .i64 0, .int .i64 0, .int .i64 0, .int .i64 0, .int .i64 0, .int .i64 0, .int .i64 0, .int .i64 0, .int .i64 0, .int .i64 0, .int .i64 0, .int .i64 0, .int .i64 0, .int .i64 0, .int .i64 0, .int .i64 0, .int .i64 0, .int .i64 0, .int .i64 0, .int .i64 0, .int .i64 0, .int .i64 0, .int .i64 0, .int .i64 0, .int .i64 0, .int .i64 0, .int .i64 0, .int .i64 0, .int .i64 0, .int .i64 0, .int .i64 0]]
theorem Nl:ownKnob Tryz.prog.godebug=none:=by kernel_rfl
theorem C0:laidOutB Tryz.prog=true:=by kernel_rfl
theorem Nk(os:Os)(args:Array Value):laidMetH Tryz.prog Rows.frameGrayRow.laid ((World.laidAll Tryz.prog os Rows.frameGrayRow.laid).forCall (fun _ _=>0) ⟨#[],args,[]⟩).memory:=by
 rw [MakeChecks.laidMetH_plain _ _ _ AA];exact laidMet_laidAll _ AA AA
theorem LD(os:Os){H:Type}(enc:TypeId×Value→H):∃places,DataW.whole enc Tryz.prog ((World.laidAll Tryz.prog os Rows.frameGrayRow.laid).forCall (fun _ _=>0) ⟨#[],DA,[]⟩).memory Tryz.f6.params.toList Rows.frameGraySpec.vars false (DA:Array Value).toList 8=some ([.nil, .lit (.int .i64 0), .lit (.int .i64 0), .agg [.lit (.int .i64 0), .lit (.int .i64 0), .lit (.int .i64 0), .lit (.int .i64 0), .lit (.int .i64 0), .lit (.int .i64 0), .lit (.int .i64 0), .lit (.int .i64 0), .lit (.int .i64 0), .lit (.int .i64 0), .lit (.int .i64 0), .lit (.int .i64 0), .lit (.int .i64 0), .lit (.int .i64 0), .lit (.int .i64 0), .lit (.int .i64 0), .lit (.int .i64 0), .lit (.int .i64 0), .lit (.int .i64 0), .lit (.int .i64 0), .lit (.int .i64 0), .lit (.int .i64 0), .lit (.int .i64 0), .lit (.int .i64 0), .lit (.int .i64 0), .lit (.int .i64 0), .lit (.int .i64 0), .lit (.int .i64 0), .lit (.int .i64 0), .lit (.int .i64 0), .lit (.int .i64 0), .lit (.int .i64 0), .lit (.int .i64 0), .lit (.int .i64 0), .lit (.int .i64 0), .lit (.int .i64 0), .lit (.int .i64 0), .lit (.int .i64 0), .lit (.int .i64 0), .lit (.int .i64 0), .lit (.int .i64 0), .lit (.int .i64 0), .lit (.int .i64 0), .lit (.int .i64 0), .lit (.int .i64 0), .lit (.int .i64 0), .lit (.int .i64 0), .lit (.int .i64 0), .lit (.int .i64 0), .lit (.int .i64 0), .lit (.int .i64 0), .lit (.int .i64 0), .lit (.int .i64 0), .lit (.int .i64 0), .lit (.int .i64 0), .lit (.int .i64 0), .lit (.int .i64 0), .lit (.int .i64 0), .lit (.int .i64 0), .lit (.int .i64 0), .lit (.int .i64 0), .lit (.int .i64 0), .lit (.int .i64 0), .lit (.int .i64 0)]],[],places):=
 ⟨[],by kernel_rfl⟩
theorem J3(os:Os)(started:os.Started)(H:Type)(enc:TypeId×Value→H)(F:Stop.Interp):
 ReturnsInHanded {} Tryz.checked os 6 .any ((OpenSpec.ofChange Rows.frameGraySpec).preRow enc Tryz.prog Tryz.f6 Rows.frameGrayRow.domain false Rows.frameGrayRow.laid) (((OpenSpec.ofChange Rows.frameGraySpec).at F).post enc Tryz.prog Tryz.f6 false true false false):=by
 obtain ⟨places,hx⟩:=LD os enc
 have hok:Input.okWideB Tryz.prog ((World.laidAll Tryz.prog os Rows.frameGrayRow.laid).forCall (fun _ _=>0) ⟨#[],DA,[]⟩) 6 ⟨#[],DA,[]⟩=true:=by kernel_rfl
 refine returnsInHanded_of_row (C:=Tryz.checked) (s:=OpenSpec.ofChange Rows.frameGraySpec) Nl started AA Tryz.func6
  ⟨(World.laidAll Tryz.prog os Rows.frameGrayRow.laid),fun _ _=>0,⟨#[],DA,[]⟩,World.laidAll_os _ _ _,World.shaped_of_ZipB AA AA,(Input.okWide_of_okWideB (base:=0) hok).1,(Input.okWide_of_okWideB hok).2,
   OpenSpec.preRow_of_cond 8 hx AA (fun k hk=>by cases hk) AA (Nk os _),by
   simp only [Assume.holds]
   exact ⟨by simp,by simp,by simp,by simp,by simp⟩⟩ ?_
 intro W base args ds gs before hval0 hW _ hk _ hL hsh _
 have hval:∀(j:Nat) t v,Tryz.f6.params[j]? =some t→args[j]? =some v→Value.okWide Tryz.prog W .any base t v:=hval0
 have hW':=hW
 obtain ⟨p,q,hA0,hV,rfl,hfz,hnd⟩:=hW
 have hA:DataW.TrodAll enc Tryz.prog W 0 (fun _=>true) true Tryz.f6.params.toList args.toList ds p:=hA0
 rw [Tryz.params6] at hA hval
 obtain ⟨v0,vs0,d0,ds0,p0,q0,hargs,rfl,rfl,h0,r0⟩:=trodAll_cons hA
 obtain ⟨v1,vs1,d1,ds1,p1,q1,rfl,rfl,rfl,h1,r1⟩:=trodAll_cons r0
 obtain ⟨v2,vs2,d2,ds2,p2,q2,rfl,rfl,rfl,h2,r2⟩:=trodAll_cons r1
 obtain ⟨v3,vs3,d3,ds3,p3,q3,rfl,rfl,rfl,h3,r3⟩:=trodAll_cons r2
 obtain ⟨rfl,rfl,rfl⟩:=trodAll_nil r3
 obtain rfl:args=#[v0,v1,v2,v3]:=by cases args;simp_all
 obtain ⟨rfl,rfl⟩:=trodVars_none hV
 have lt0:∀x∈p0,x.block<W.heap.size:=by obtain ⟨m,hm⟩:=h0;exact DataW.trod_lt m _ _ _ hm
 have lt1:∀x∈p1,x.block<W.heap.size:=by obtain ⟨m,hm⟩:=h1;exact DataW.trod_lt m _ _ _ hm
 have lt2:∀x∈p2,x.block<W.heap.size:=by obtain ⟨m,hm⟩:=h2;exact DataW.trod_lt m _ _ _ hm
 have lt3:∀x∈p3,x.block<W.heap.size:=by obtain ⟨m,hm⟩:=h3;exact DataW.trod_lt m _ _ _ hm
 refine (Lv W (hval 0 30 v0 rfl rfl) h0 lt0 (hval 1 3 v1 rfl rfl) h1 lt1 (hval 2 3 v2 rfl rfl) h2 lt2 (hval 3 26 v3 rfl rfl) h3 lt3 hsh).mono fun e W' ⟨he,bel⟩=>?_
 subst he
 exact ⟨_,rfl,_,_,_,[],_,[],hW',trodAll_mk1 (shut_bool Tryz.underlying4 _),(trodAll_cons_mk (Below.trod C0 AA (of_decide_eq_true AA) h0 bel lt0) (trodAll_cons_mk (Below.trod C0 AA (of_decide_eq_true AA) h1 bel lt1) (trodAll_cons_mk (Below.trod C0 AA (of_decide_eq_true AA) h2 bel lt2) (trodAll_cons_mk (Below.trod C0 AA (of_decide_eq_true AA) h3 bel lt3) trodAll_mk0)))),rfl,bel.frame _,fun h=>by cases h⟩
theorem Lu:Rows.FrameGraySaid:=
 OpenClaim.holds_of_cond 6 Tryz.f6 rfl rfl rfl rfl rfl rfl rfl ⟨rfl,rfl,rfl,rfl,rfl⟩ rfl rfl rfl rfl rfl AA Tryz.func6 AA
  (of_decide_eq_true AA) (by unfold Func.isWrapper;rw [if_neg (by decide+kernel)];exact ⟨rfl,rfl⟩)
  (fun os started H enc _ F=>by rw [OpenClaim.pre_eq_preRow];exact J3 os started H enc F)
theorem I3(f:FuncId)(fn:Func)(hf:Tryz.pinned.checked.prog.funcNamed "mezzotint/mezzotintkeep.FrameGray" =some f)(hfn:Tryz.pinned.checked.prog.funcs[f]? =some fn):
 false=Tryz.pinned.checked.prog.looks []∧∀(j:Nat) t,fn.params[j]? =some t→Tryz.pinned.checked.prog.wantsStandIn t=false:=by
 obtain rfl:f=6:=Option.some.inj ((show Tryz.prog.funcNamed "mezzotint/mezzotintkeep.FrameGray" =some 6 by kernel_rfl).symm.trans hf) |>.symm
 obtain rfl:fn=Tryz.f6:=(Option.some.inj (Tryz.func6.symm.trans hfn)).symm
 refine ⟨by kernel_rfl,fun j t ht=>?_⟩
 rw [Tryz.params6] at ht
 have hm:t∈([30,3,3,26]:List Nat):=by simpa using Array.mem_of_getElem? ht
 have hall:(([30,3,3,26]:List Nat).all fun u=>!Tryz.prog.wantsStandIn u)=true:=by kernel_rfl
 exact (show Tryz.prog.wantsStandIn t=false by simpa using List.all_eq_true.1 hall t hm)
theorem FrameGray_proved:Rows.FrameGrayCardSaid:=
 Claim7.holds_tied_plain_at .later [] _ _ _ _ Lu (fun _ h=>by cases h) AA (fun _ h=>by cases h) frameGray_row_tie rfl ⟨rfl,rfl⟩ AA rfl I3 AA
end Go.Proofs.YtohacgmhmbijmaaGreatDoor
