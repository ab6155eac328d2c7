/- The law TopTold: its walk, and the statement. -/
import Derived.Test.YtohacgmhmbijmaaGreatDoorBaseSZ2
import Derived.Test.YtohacgmhmbijmaaGreatDoorBaseSZ3
import Derived.Test.YtohacgmhmbijmaaGreatDoorBaseSZ4
import Derived.Test.YtohacgmhmbijmaaGreatDoorBaseSZ19
import Derived.Test.YtohacgmhmbijmaaGreatDoorRescueWholeZ
import Derived.Test.YtohacgmhmbijmaaGreatDoorRows
import Derived.Test.YtohacgmhmbijmaaGreatDoorCards
import Derived.Test.YtohacgmhmbijmaaGreatDoorTie
import Derived.Deep.DeepHandedRow
import Derived.Lay
import Derived.SevenTiedAt
namespace Go.Proofs.YtohacgmhmbijmaaGreatDoor
attribute [local irreducible] Region.wanted
open Go.ChangeShapes Go.WideShapes Go.ChangeAt Go.RowKit
set_option linter.unusedVariables false
set_option maxRecDepth 100000
set_option maxHeartbeats 8000000
theorem Gm(w:World):Av w none 0 []:=⟨Sl.none w 1,fun r hr=>by cases hr⟩
theorem Nr{H:Type}{enc:TypeId×Value→H}{d0:DataW H}{p0:List MemPlace}{v0:Value}{base:Nat}(W:World)
 (o0:Value.okWide Tryz.prog W .any base 37 v0) (h0:DataW.Trod enc Tryz.prog W 0 (fun _=>true) true 37 v0 d0 p0) (lt0:∀x∈p0,x.block<W.heap.size)
 (hsh:W.ShapedOpen Tryz.prog):
 Calls Tryz.prog 14 #[v0] W fun e w'=>e= .returned (.bool true)∧Af W w':=by
 obtain ⟨f,a1,a2,ad,n1,k1,n2,k2,nd,kd,rfl,hF⟩:=QI o0 h0
 have hml:∃m,W.cell? ⟨0,0,none⟩=some (.int .i64 m):=Tryz.laysM185.s1_3 W hsh
 clear o0 h0 lt0 hsh
 have hS:=St.start W
 have HML:=AD hml
 have hFM:=FM.of_in hF
 have HD:Hid (∀w b1 b2 bd m1 j1 m2 j2 md jd,Af W w→FM w f b1 b2 bd m1 j1 m2 j2 md jd→Calls Tryz.prog 21 #[fv f (.slice b1 m1 j1) (.slice b2 m2 j2) (.slice bd md jd)] w (O7 w (Ma f) f.wide f.high (Uq f))):=fun w b1 b2 bd m1 j1 m2 j2 md jd hx hf=>Hq w f b1 b2 bd m1 j1 m2 j2 md jd hf (hml.imp fun m h=>hx.cell h)
 have HR:Hid (∀w b1 b2 bd m1 j1 m2 j2 md jd,Af W w→FM w f b1 b2 bd m1 j1 m2 j2 md jd→Calls Tryz.prog 31 #[fv f (.slice b1 m1 j1) (.slice b2 m2 j2) (.slice bd md jd)] w (PA w (QP f) f.wide f.high (Yw f) (Kl f).2.2)):=fun w b1 b2 bd m1 j1 m2 j2 md jd hx hf=>FD w f b1 b2 bd m1 j1 m2 j2 md jd hf (hml.imp fun m h=>hx.cell h)
 by_cases hz:Bo f=0
 case neg=>
  obtain ⟨Z,hZ⟩:∃Z,Bo f=Z:=⟨_,rfl⟩
  rw [hZ] at hz
  have HP:=AD fun (w:World)(hx:Af W w)=>QJ w f a1 a2 ad n1 n2 nd k1 k2 kd hFM.q hFM.l1 hFM.l2 (hFM.s1.ext hx) (hFM.s2.ext hx) hFM.b1 hFM.b2 hFM.bd hFM.dl Z hZ hz
  have hQ:=hFM.q
  have hC1:=hFM.l1
  have hC2:=hFM.l2
  clear hF hFM hml HD HR hZ
  obtain ⟨m,h,p,Q,C1,S1,C2,S2,ev,D⟩:=f
  dsimp only at hQ hC1 hC2 HP⊢
  show Calls Tryz.prog 14 #[.agg (AF [.val (.int .i64 m), .val (.int .i64 h), .val (.int .i64 p), .ints Q, .ints C1, .val (.slice a1 n1 k1), .ints C2, .val (.slice a2 n2 k2), .val (.int .i64 ev), .val (.slice ad nd kd)]).toArray] _ _
  go_enter Tryz.func14,Tryz.ntmps14
  repeat' (first
   | (refine Al 35 ?_);refine Am AA Tryz.call35 (Gv _ (HML.out.imp fun m h=>hS.1.cell h)) (EW hS ?_);clear hS;intro w hS;go_step|(refine Al 39 ?_);refine Am AA Tryz.call39 (HP.out _ hS.1) (EW hS ?_);clear hS;intro w hS;go_step|refine X0 ?_|refine KS ?_|refine X4 ?_|refine X3 ?_|refine bm ?_|refine Sc ?_|refine Js 1 ?_;clear hS;intro g1 w hS|refine JE ?_|refine AH ?_;go_step|fail)
  all_goals (try exact AQ)
  all_goals
   go_ret
   exact ⟨rfl,hS.1⟩
 have HP:=AD fun (w:World)(hx:Af W w)=>Lj w f a1 a2 ad n1 k1 n2 k2 nd kd (hFM.ext hx) hz
 have hPA:=fun (w:World)(ao:Option Addr)(co:Nat)(hv:Sl w 1 (.slice ao (BF f).length co) (BF f).length ((BF f).map (Value.int .u8)))=>Ll w f hFM.q.out hFM.l1.out hFM.l2.out hFM.dlt hz ao co hv
 obtain ⟨P,hP⟩:∃P,BF f=P:=⟨_,rfl⟩
 obtain ⟨pn,hpn⟩:∃n,P.length=n:=⟨_,rfl⟩
 rw [hP,hpn] at HP hPA
 have HPA:=AD hPA
 have HFO:Hid (∀w b1 b2 bd j1 j2 jd,Sl w 1 (.slice b1 f.s1.length j1) f.s1.length (f.s1.map (Value.int .i64))→Sl w 1 (.slice b2 f.s2.length j2) f.s2.length (f.s2.map (Value.int .i64))→Sl w 1 (.slice bd f.data.length jd) f.data.length ((BV f).map (Value.int .u8))→FM w f b1 b2 bd f.s1.length j1 f.s2.length j2 f.data.length jd):=fun w b1 b2 bd j1 j2 jd s1 s2 sd=>fq hFM.q hFM.l1 hFM.l2 hFM.dlt s1 s2 sd
 have HF0:Hid (∀w,Af W w→FM w f a1 a2 ad n1 k1 n2 k2 nd kd):=fun w hx=>hFM.ext hx
 have hlaw:=Ng f
 obtain ⟨L,hL⟩:∃L,Uq f=L:=⟨_,rfl⟩
 obtain ⟨L2,hL2⟩:∃L,Yw f=L:=⟨_,rfl⟩
 obtain ⟨E,hE⟩:∃E,Ma f=E:=⟨_,rfl⟩
 obtain ⟨E2,hE2⟩:∃E,QP f=E:=⟨_,rfl⟩
 obtain ⟨bad,hb⟩:∃b,(Kl f).2.2=b:=⟨_,rfl⟩
 rw [hL,hE] at HD
 rw [hL2,hE2,hb] at HR
 rw [hL,hL2,hE,hE2,hb] at hlaw
 have hQ:=hFM.q
 have hC1:=hFM.l1
 have hC2:=hFM.l2
 clear hL hL2 hE hE2 hb hF hFM hml hPA hP hpn hz
 obtain ⟨Dt,hDt⟩:∃D,BV f=D:=⟨_,rfl⟩
 rw [hDt] at HPA HFO
 obtain ⟨q1,hq1⟩:∃n,f.s1.length=n:=⟨_,rfl⟩
 obtain ⟨q2,hq2⟩:∃n,f.s2.length=n:=⟨_,rfl⟩
 obtain ⟨qd,hqd⟩:∃n,f.data.length=n:=⟨_,rfl⟩
 rw [hq1,hq2,hqd] at HPA HFO
 clear hDt hq1 hq2 hqd
 obtain ⟨m,h,p,Q,C1,S1,C2,S2,ev,D⟩:=f
 dsimp only at hQ hC1 hC2 HD HR HP HPA HFO HF0⊢
 show Calls Tryz.prog 14 #[.agg (AF [.val (.int .i64 m), .val (.int .i64 h), .val (.int .i64 p), .ints Q, .ints C1, .val (.slice a1 n1 k1), .ints C2, .val (.slice a2 n2 k2), .val (.int .i64 ev), .val (.slice ad nd kd)]).toArray] _ _
 rcases hlaw with ⟨e1,e2⟩|⟨e1,rfl,e3⟩|⟨rfl,rfl,rfl,rfl⟩
 ·have HNN:=AD (show decide (([]:List Int)=[])=true from rfl)
  go_enter Tryz.func14,Tryz.ntmps14
  repeat' (first
   | (refine Al 35 ?_);refine Am AA Tryz.call35 (Gv _ (HML.out.imp fun m h=>hS.1.cell h)) (EW hS ?_);clear hS;intro w hS;go_step|(refine Al 39 ?_);refine Am AA Tryz.call39 (HP.out _ hS.1) ?_;rintro e w ⟨ao,co,rfl,hS2⟩;replace hS:=hS.call1 hS2;clear hS2;refine AX ?_;go_step|(refine Al 40 ?_);refine Am AA Tryz.call40 (HPA.out _ ao co (hS.sl AK)) ?_;rintro e w ⟨b1,b2,bd,j1,j2,jd,rfl,hS2⟩;unfold fv Hu;dsimp only;replace hS:=hS.call hS2;clear hS2;simp only [List.cons_append,List.nil_append] at hS;refine AX ?_;go_step|refine X0 ?_|refine KS ?_|refine X4 ?_|refine X3 ?_|refine Js 1 ?_;clear hS;intro g1 w hS|refine JE ?_|refine RD 5 ?_;clear hS;intro g5 w hS|refine Qz ?_;clear hS;intro w hS|refine AH ?_;go_step|fail)
  all_goals (try exact AQ)
  repeat' (first
   | (refine AP 36 ?_);refine AG (f:=21) Tryz.call21 AA ?_;refine ⟨_,(HD.out _ a1 a2 ad n1 k1 n2 k2 nd kd hS.1 (HF0.out _ hS.1)),?_⟩;rintro e w ⟨hq,_⟩;obtain ⟨rfl,hE2⟩:=hq e1;clear hq;unfold LS;replace hS:=hS.ext hE2;clear hE2;refine AX ?_;go_step|(refine AP 41 ?_);refine AG (f:=21) Tryz.call21 AA ?_;refine ⟨_,(HD.out _ b1 b2 bd q1 j1 q2 j2 qd jd hS.1 (HFO.out _ b1 b2 bd j1 j2 jd (hS.sl AK) (hS.sl AK) (hS.sl AK))),?_⟩;rintro e w ⟨hq,_⟩;obtain ⟨rfl,hE2⟩:=hq e1;clear hq;unfold LS;replace hS:=hS.ext hE2;clear hE2;refine AX ?_;go_step|(refine AP 46 ?_);refine AG (f:=31) Tryz.call31 AA ?_;refine ⟨_,(HR.out _ a1 a2 ad n1 k1 n2 k2 nd kd hS.1 (HF0.out _ hS.1)),?_⟩;rintro e w ⟨hq,_⟩;obtain ⟨rfl,hE2⟩:=hq e2;clear hq;unfold LS;replace hS:=hS.ext hE2;clear hE2;refine AX ?_;go_step|(refine AP 52 ?_);refine AG (f:=31) Tryz.call31 AA ?_;refine ⟨_,(HR.out _ b1 b2 bd q1 j1 q2 j2 qd jd hS.1 (HFO.out _ b1 b2 bd j1 j2 jd (hS.sl AK) (hS.sl AK) (hS.sl AK))),?_⟩;rintro e w ⟨hq,_⟩;obtain ⟨rfl,hE2⟩:=hq e2;clear hq;unfold LS;replace hS:=hS.ext hE2;clear hE2;refine AX ?_;go_step|(refine AP 66 ?_);refine AG (f:=23) Tryz.call23 AA ?_;refine ⟨_,(BQ _ 0 0 none none 0 0 [] [] (Gm _) (Gm _) (by show 0≤9223372036854775807;omega) rfl),?_⟩;rintro e w ⟨rfl,hE⟩;replace hS:=hS.ext hE;clear hE;refine AX ?_;go_step|(refine AP 76 ?_);refine AG (f:=23) Tryz.call23 AA ?_;refine ⟨_,(BQ _ 0 0 none none 0 0 [] [] (Gm _) (Gm _) (by show 0≤9223372036854775807;omega) rfl),?_⟩;rintro e w ⟨rfl,hE⟩;replace hS:=hS.ext hE;clear hE;refine AX ?_;go_step|(refine Al 29 ?_);refine Am AA Tryz.call29 (FJ _ _ _ [] [] (FB (Sl.none _ 1)) (FB (Sl.none _ 1))) ?_;rintro e w' ⟨rfl,rfl⟩;rw [HNN.out];refine AX ?_;go_step|go_skip|refine X0 ?_|refine Eu ?_|refine X9 57 ?_ ?_<;>intro hB<;>(try exact AQ)<;>go_step|refine X9 61 ?_ ?_<;>intro hB<;>(try exact AQ)<;>go_step|refine X9 71 ?_ ?_<;>intro hB<;>(try exact AQ)<;>go_step|refine Et 85 ?_ ?_<;>intro hB<;>(try exact AQ)<;>go_step|refine X4 ?_|refine JE ?_|refine GB 7 ?_;clear hS;intro g7 w hS|refine Ns ?_;clear hS;intro w hS|refine GB 9 ?_;clear hS;intro g9 w hS|refine GB 11 ?_;clear hS;intro g11 w hS|refine GB 14 ?_;clear hS;intro g14 w hS|refine PF ?_|refine AH ?_;go_step|fail)
  all_goals (try exact AQ)
  all_goals (try (have hF:False:=(hB rfl);cases hF))
  all_goals (try (first|exact absurd e1 (by assumption)|exact absurd rfl (by assumption)))
  all_goals
   go_ret
   first|exact ⟨rfl,hS.1⟩|exact ⟨Aw (decide_eq_true e1),hS.1⟩|exact ⟨Aw (decide_eq_true rfl),hS.1⟩|skip
 ·have HBB:=AD (show decide (bad=bad)=true from decide_eq_true rfl)
  clear e3
  go_enter Tryz.func14,Tryz.ntmps14
  repeat' (first
   | (refine Al 35 ?_);refine Am AA Tryz.call35 (Gv _ (HML.out.imp fun m h=>hS.1.cell h)) (EW hS ?_);clear hS;intro w hS;go_step|(refine Al 39 ?_);refine Am AA Tryz.call39 (HP.out _ hS.1) ?_;rintro e w ⟨ao,co,rfl,hS2⟩;replace hS:=hS.call1 hS2;clear hS2;refine AX ?_;go_step|(refine Al 40 ?_);refine Am AA Tryz.call40 (HPA.out _ ao co (hS.sl AK)) ?_;rintro e w ⟨b1,b2,bd,j1,j2,jd,rfl,hS2⟩;unfold fv Hu;dsimp only;replace hS:=hS.call hS2;clear hS2;simp only [List.cons_append,List.nil_append] at hS;refine AX ?_;go_step|refine X0 ?_|refine KS ?_|refine X4 ?_|refine X3 ?_|refine Js 1 ?_;clear hS;intro g1 w hS|refine JE ?_|refine RD 5 ?_;clear hS;intro g5 w hS|refine Qz ?_;clear hS;intro w hS|refine AH ?_;go_step|fail)
  all_goals (try exact AQ)
  repeat' (first
   | (refine AP 36 ?_);refine AG (f:=21) Tryz.call21 AA ?_;refine ⟨_,(HD.out _ a1 a2 ad n1 k1 n2 k2 nd kd hS.1 (HF0.out _ hS.1)),?_⟩;rintro e w ⟨hq,_⟩;obtain ⟨rfl,hE2⟩:=hq e1;clear hq;unfold LS;replace hS:=hS.ext hE2;clear hE2;refine AX ?_;go_step|(refine AP 41 ?_);refine AG (f:=21) Tryz.call21 AA ?_;refine ⟨_,(HD.out _ b1 b2 bd q1 j1 q2 j2 qd jd hS.1 (HFO.out _ b1 b2 bd j1 j2 jd (hS.sl AK) (hS.sl AK) (hS.sl AK))),?_⟩;rintro e w ⟨hq,_⟩;obtain ⟨rfl,hE2⟩:=hq e1;clear hq;unfold LS;replace hS:=hS.ext hE2;clear hE2;refine AX ?_;go_step|(refine AP 46 ?_);refine AG (f:=31) Tryz.call31 AA ?_;refine ⟨_,(HR.out _ a1 a2 ad n1 k1 n2 k2 nd kd hS.1 (HF0.out _ hS.1)),?_⟩;rintro e w ⟨_,hq⟩;obtain ⟨u8,c8,R8,ab8,cb8,nb8,hR8,hnb8,rfl,hP9⟩:=hq rfl;clear hq;replace hS:=hS.call hP9;clear hP9;simp only [List.cons_append,List.nil_append] at hS;have HR8:=AD hR8;clear hR8;have HNB8:=AD hnb8;clear hnb8;refine AX ?_;go_step|(refine AP 52 ?_);refine AG (f:=31) Tryz.call31 AA ?_;refine ⟨_,(HR.out _ b1 b2 bd q1 j1 q2 j2 qd jd hS.1 (HFO.out _ b1 b2 bd j1 j2 jd (hS.sl AK) (hS.sl AK) (hS.sl AK))),?_⟩;rintro e w ⟨_,hq⟩;obtain ⟨u9,c9,R9,ab9,cb9,nb9,hR9,hnb9,rfl,hP9⟩:=hq rfl;clear hq;replace hS:=hS.call hP9;clear hP9;simp only [List.cons_append,List.nil_append] at hS;have HR9:=AD hR9;clear hR9;have HNB9:=AD hnb9;clear hnb9;refine AX ?_;go_step|refine X0 ?_|refine X4 ?_|refine JE ?_|refine GB 7 ?_;clear hS;intro g7 w hS|refine Ns ?_;clear hS;intro w hS|refine GB 9 ?_;clear hS;intro g9 w hS|refine GB 11 ?_;clear hS;intro g11 w hS|refine GB 14 ?_;clear hS;intro g14 w hS|refine AH ?_;go_step|fail)
  obtain rfl:nb8=nb9:=HNB8.out.symm.trans HNB9.out
  have HR9:=AD HR9.out
  repeat' (first
   | (refine AP 66 ?_);refine AG (f:=23) Tryz.call23 AA ?_;refine ⟨_,(BQ _ 0 0 none none 0 0 [] [] (Gm _) (Gm _) (by show 0≤9223372036854775807;omega) rfl),?_⟩;rintro e w ⟨rfl,hE⟩;replace hS:=hS.ext hE;clear hE;refine AX ?_;go_step|(refine AP 76 ?_);refine AG (f:=23) Tryz.call23 AA ?_;refine ⟨_,(BQ _ m h u8 u9 c8 c9 R8 R9 (Av.of hS AK AK) (Av.of hS AK AK) (Eh (Av.of (a:=u8) (c:=c8) (R:=R8) hS AK AK).sl) (HR8.out.trans HR9.out.symm)),?_⟩;rintro e w ⟨rfl,hE⟩;replace hS:=hS.ext hE;clear hE;refine AX ?_;go_step|(refine Al 29 ?_);refine Am AA Tryz.call29 (FJ _ _ _ bad bad (FB (n:=nb8) (ad:=ab8) (c:=cb8) (hS.sl AK)) (FB (n:=nb8) (ad:=ab9) (c:=cb9) (hS.sl AK))) ?_;rintro e w' ⟨rfl,rfl⟩;rw [HBB.out];refine AX ?_;go_step|go_skip|refine X0 ?_|refine Eu ?_|refine X9 57 ?_ ?_<;>intro hB<;>(try exact AQ)<;>go_step|refine X9 61 ?_ ?_<;>intro hB<;>(try exact AQ)<;>go_step|refine X9 71 ?_ ?_<;>intro hB<;>(try exact AQ)<;>go_step|refine Et 85 ?_ ?_<;>intro hB<;>(try exact AQ)<;>go_step|refine PF ?_|refine AH ?_;go_step|fail)
  all_goals (try exact AQ)
  all_goals (try (have hF:False:=(hB rfl);cases hF))
  all_goals (try (first|exact absurd e1 (by assumption)|exact absurd rfl (by assumption)))
  all_goals
   go_ret
   first|exact ⟨rfl,hS.1⟩|exact ⟨Aw (decide_eq_true e1),hS.1⟩|exact ⟨Aw (decide_eq_true rfl),hS.1⟩|skip
 obtain ⟨bad,hbad⟩:∃b:List Int,[]=b:=⟨_,rfl⟩
 rw [hbad] at HR
 have HBB:=AD (show decide (bad=bad)=true from decide_eq_true rfl)
 clear hbad
 go_enter Tryz.func14,Tryz.ntmps14
 repeat' (first
  | (refine Al 35 ?_);refine Am AA Tryz.call35 (Gv _ (HML.out.imp fun m h=>hS.1.cell h)) (EW hS ?_);clear hS;intro w hS;go_step|(refine Al 39 ?_);refine Am AA Tryz.call39 (HP.out _ hS.1) ?_;rintro e w ⟨ao,co,rfl,hS2⟩;replace hS:=hS.call1 hS2;clear hS2;refine AX ?_;go_step|(refine Al 40 ?_);refine Am AA Tryz.call40 (HPA.out _ ao co (hS.sl AK)) ?_;rintro e w ⟨b1,b2,bd,j1,j2,jd,rfl,hS2⟩;unfold fv Hu;dsimp only;replace hS:=hS.call hS2;clear hS2;simp only [List.cons_append,List.nil_append] at hS;refine AX ?_;go_step|refine X0 ?_|refine KS ?_|refine X4 ?_|refine X3 ?_|refine Js 1 ?_;clear hS;intro g1 w hS|refine JE ?_|refine RD 5 ?_;clear hS;intro g5 w hS|refine Qz ?_;clear hS;intro w hS|refine AH ?_;go_step|fail)
 all_goals (try exact AQ)
 repeat' (first
  | (refine AP 36 ?_);refine AG (f:=21) Tryz.call21 AA ?_;refine ⟨_,(HD.out _ a1 a2 ad n1 k1 n2 k2 nd kd hS.1 (HF0.out _ hS.1)),?_⟩;rintro e w ⟨_,hq⟩;obtain ⟨u6,c6,R6,hR6,rfl,hP9⟩:=hq rfl;clear hq;replace hS:=hS.call hP9;clear hP9;simp only [List.cons_append,List.nil_append] at hS;have HR6:=AD hR6;clear hR6;refine AX ?_;go_step|(refine AP 41 ?_);refine AG (f:=21) Tryz.call21 AA ?_;refine ⟨_,(HD.out _ b1 b2 bd q1 j1 q2 j2 qd jd hS.1 (HFO.out _ b1 b2 bd j1 j2 jd (hS.sl AK) (hS.sl AK) (hS.sl AK))),?_⟩;rintro e w ⟨_,hq⟩;obtain ⟨u7,c7,R7,hR7,rfl,hP9⟩:=hq rfl;clear hq;replace hS:=hS.call hP9;clear hP9;simp only [List.cons_append,List.nil_append] at hS;have HR7:=AD hR7;clear hR7;refine AX ?_;go_step|(refine AP 46 ?_);refine AG (f:=31) Tryz.call31 AA ?_;refine ⟨_,(HR.out _ a1 a2 ad n1 k1 n2 k2 nd kd hS.1 (HF0.out _ hS.1)),?_⟩;rintro e w ⟨_,hq⟩;obtain ⟨u8,c8,R8,ab8,cb8,nb8,hR8,hnb8,rfl,hP9⟩:=hq rfl;clear hq;replace hS:=hS.call hP9;clear hP9;simp only [List.cons_append,List.nil_append] at hS;have HR8:=AD hR8;clear hR8;have HNB8:=AD hnb8;clear hnb8;refine AX ?_;go_step|(refine AP 52 ?_);refine AG (f:=31) Tryz.call31 AA ?_;refine ⟨_,(HR.out _ b1 b2 bd q1 j1 q2 j2 qd jd hS.1 (HFO.out _ b1 b2 bd j1 j2 jd (hS.sl AK) (hS.sl AK) (hS.sl AK))),?_⟩;rintro e w ⟨_,hq⟩;obtain ⟨u9,c9,R9,ab9,cb9,nb9,hR9,hnb9,rfl,hP9⟩:=hq rfl;clear hq;replace hS:=hS.call hP9;clear hP9;simp only [List.cons_append,List.nil_append] at hS;have HR9:=AD hR9;clear hR9;have HNB9:=AD hnb9;clear hnb9;refine AX ?_;go_step|refine X0 ?_|refine X4 ?_|refine JE ?_|refine GB 7 ?_;clear hS;intro g7 w hS|refine Ns ?_;clear hS;intro w hS|refine GB 9 ?_;clear hS;intro g9 w hS|refine GB 11 ?_;clear hS;intro g11 w hS|refine GB 14 ?_;clear hS;intro g14 w hS|refine AH ?_;go_step|fail)
 obtain rfl:nb8=nb9:=HNB8.out.symm.trans HNB9.out
 repeat' (first
  | (refine AP 66 ?_);refine AG (f:=23) Tryz.call23 AA ?_;refine ⟨_,(BQ _ m h u6 u7 c6 c7 R6 R7 (Av.of hS AK AK) (Av.of hS AK AK) (Eh (Av.of (a:=u6) (c:=c6) (R:=R6) hS AK AK).sl) (HR6.out.trans HR7.out.symm)),?_⟩;rintro e w ⟨rfl,hE⟩;replace hS:=hS.ext hE;clear hE;refine AX ?_;go_step|(refine AP 76 ?_);refine AG (f:=23) Tryz.call23 AA ?_;refine ⟨_,(BQ _ m h u8 u9 c8 c9 R8 R9 (Av.of hS AK AK) (Av.of hS AK AK) (Eh (Av.of (a:=u8) (c:=c8) (R:=R8) hS AK AK).sl) (HR8.out.trans HR9.out.symm)),?_⟩;rintro e w ⟨rfl,hE⟩;replace hS:=hS.ext hE;clear hE;refine AX ?_;go_step|(refine Al 29 ?_);refine Am AA Tryz.call29 (FJ _ _ _ bad bad (FB (n:=nb8) (ad:=ab8) (c:=cb8) (hS.sl AK)) (FB (n:=nb8) (ad:=ab9) (c:=cb9) (hS.sl AK))) ?_;rintro e w' ⟨rfl,rfl⟩;rw [HBB.out];refine AX ?_;go_step|(refine AP 89 ?_);refine AG (f:=23) Tryz.call23 AA ?_;refine ⟨_,(BQ _ m h u6 u8 c6 c8 R6 R8 (Av.of hS AK AK) (Av.of hS AK AK) (Eh (Av.of (a:=u6) (c:=c6) (R:=R6) hS AK AK).sl) (HR6.out.trans HR8.out.symm)),?_⟩;rintro e w ⟨rfl,hE⟩;replace hS:=hS.ext hE;clear hE;refine AX ?_;go_step|refine X0 ?_|refine IR ?_|refine X9 57 ?_ ?_<;>intro hB<;>(try exact AQ)<;>go_step|refine X9 61 ?_ ?_<;>intro hB<;>(try exact AQ)<;>go_step|refine X9 71 ?_ ?_<;>intro hB<;>(try exact AQ)<;>go_step|refine Et 85 ?_ ?_<;>intro hB<;>(try exact AQ)<;>go_step|refine PF ?_|refine AH ?_;go_step|fail)
 all_goals (try exact AQ)
 all_goals (try (have hF:False:=(hB rfl);cases hF))
 all_goals (try (first|exact absurd e1 (by assumption)|exact absurd rfl (by assumption)))
 all_goals
  go_ret
  first|exact ⟨rfl,hS.1⟩|exact ⟨Aw (decide_eq_true e1),hS.1⟩|exact ⟨Aw (decide_eq_true rfl),hS.1⟩|skip
def DL:Array Value:=#[.agg #[.int .i64 0, .int .i64 0, .int .i64 0, .int .i64 0, .int .i64 0, .int .i64 0, .int .i64 0, .int .i64 0, .int .i64 0, .int .i64 0, .int .i64 0, .int .i64 0, .int .i64 0, .int .i64 0, .int .i64 0, .int .i64 0, .int .i64 0, .int .i64 0, .int .i64 0, .int .i64 0, .int .i64 0, .int .i64 0, .int .i64 0, .int .i64 0, .int .i64 0, .int .i64 0, .int .i64 0, .int .i64 0, .int .i64 0, .int .i64 0, .int .i64 0, .int .i64 0, .int .i64 0, .int .i64 0, .int .i64 0, .int .i64 0, .int .i64 0, .int .i64 0, .int .i64 0, .int .i64 0, .int .i64 0, .int .i64 0, .int .i64 0, .int .i64 0, .int .i64 0, .int .i64 0, .int .i64 0, .int .i64 0, .int .i64 0, .int .i64 0, .int .i64 0, .int .i64 0, .int .i64 0, .int .i64 0, .int .i64 0, .int .i64 0, .int .i64 0, .int .i64 0, .int .i64 0, .int .i64 0, .int .i64 0, .int .i64 0, .int .i64 0, .int .i64 0, .int .i64 0, .int .i64 0, .int .i64 0, .int .i64 0, .int .i64 0, .int .i64 0, .int .i64 0, .int .i64 0, .int .i64 0, .int .i64 0, .int .i64 0, .int .i64 0, .int .i64 0, .int .i64 0, .int .i64 0, .int .i64 0, .int .i64 0, .int .i64 0, .int .i64 0, .slice none 0 0, .int .i64 0, .int .i64 0, .int .i64 0, .int .i64 0, .int .i64 0, .int .i64 0, .int .i64 0, .int .i64 0, .int .i64 0, .int .i64 0, .int .i64 0, .int .i64 0, .int .i64 0, .int .i64 0, .int .i64 0, .int .i64 0, .slice none 0 0, .int .i64 0, .slice none 0 0]]
theorem PD:ownKnob Tryz.prog.godebug=none:=by kernel_rfl
theorem KN:laidOutB Tryz.prog=true:=by kernel_rfl
theorem PC(os:Os)(args:Array Value):laidMetH Tryz.prog Rows.topToldRow.laid ((World.laidAll Tryz.prog os Rows.topToldRow.laid).forCall (fun _ _=>0) ⟨#[],args,[]⟩).memory:=by
 rw [MakeChecks.laidMetH_plain _ _ _ AA];exact laidMet_laidAll _ AA AA
theorem MW(os:Os){H:Type}(enc:TypeId×Value→H):∃places,DataW.whole enc Tryz.prog ((World.laidAll Tryz.prog os Rows.topToldRow.laid).forCall (fun _ _=>0) ⟨#[],DL,[]⟩).memory Tryz.f14.params.toList Rows.topToldSpec.vars false (DL:Array Value).toList 8=some ([.agg [.lit (.int .i64 0), .lit (.int .i64 0), .lit (.int .i64 0), .agg [.lit (.int .i64 0), .lit (.int .i64 0), .lit (.int .i64 0), .lit (.int .i64 0), .lit (.int .i64 0), .lit (.int .i64 0), .lit (.int .i64 0), .lit (.int .i64 0), .lit (.int .i64 0), .lit (.int .i64 0), .lit (.int .i64 0), .lit (.int .i64 0), .lit (.int .i64 0), .lit (.int .i64 0), .lit (.int .i64 0), .lit (.int .i64 0), .lit (.int .i64 0), .lit (.int .i64 0), .lit (.int .i64 0), .lit (.int .i64 0), .lit (.int .i64 0), .lit (.int .i64 0), .lit (.int .i64 0), .lit (.int .i64 0), .lit (.int .i64 0), .lit (.int .i64 0), .lit (.int .i64 0), .lit (.int .i64 0), .lit (.int .i64 0), .lit (.int .i64 0), .lit (.int .i64 0), .lit (.int .i64 0), .lit (.int .i64 0), .lit (.int .i64 0), .lit (.int .i64 0), .lit (.int .i64 0), .lit (.int .i64 0), .lit (.int .i64 0), .lit (.int .i64 0), .lit (.int .i64 0), .lit (.int .i64 0), .lit (.int .i64 0), .lit (.int .i64 0), .lit (.int .i64 0), .lit (.int .i64 0), .lit (.int .i64 0), .lit (.int .i64 0), .lit (.int .i64 0), .lit (.int .i64 0), .lit (.int .i64 0), .lit (.int .i64 0), .lit (.int .i64 0), .lit (.int .i64 0), .lit (.int .i64 0), .lit (.int .i64 0), .lit (.int .i64 0), .lit (.int .i64 0), .lit (.int .i64 0), .lit (.int .i64 0), .lit (.int .i64 0), .lit (.int .i64 0), .lit (.int .i64 0), .lit (.int .i64 0), .lit (.int .i64 0)], .agg [.agg [.agg [.lit (.int .i64 0), .lit (.int .i64 0), .lit (.int .i64 0), .lit (.int .i64 0), .lit (.int .i64 0), .lit (.int .i64 0), .lit (.int .i64 0), .lit (.int .i64 0), .lit (.int .i64 0), .lit (.int .i64 0), .lit (.int .i64 0), .lit (.int .i64 0), .lit (.int .i64 0), .lit (.int .i64 0), .lit (.int .i64 0), .lit (.int .i64 0)], .nil], .agg [.agg [.lit (.int .i64 0), .lit (.int .i64 0), .lit (.int .i64 0), .lit (.int .i64 0), .lit (.int .i64 0), .lit (.int .i64 0), .lit (.int .i64 0), .lit (.int .i64 0), .lit (.int .i64 0), .lit (.int .i64 0), .lit (.int .i64 0), .lit (.int .i64 0), .lit (.int .i64 0), .lit (.int .i64 0), .lit (.int .i64 0), .lit (.int .i64 0)], .nil]], .lit (.int .i64 0), .nil]],[],places):=
 ⟨[],by kernel_rfl⟩
theorem Ky(os:Os)(started:os.Started)(H:Type)(enc:TypeId×Value→H)(F:Stop.Interp):
 ReturnsInHanded {} Tryz.checked os 14 .any ((OpenSpec.ofChange Rows.topToldSpec).preRow enc Tryz.prog Tryz.f14 Rows.topToldRow.domain false Rows.topToldRow.laid) (((OpenSpec.ofChange Rows.topToldSpec).at F).post enc Tryz.prog Tryz.f14 false true false false):=by
 obtain ⟨places,hx⟩:=MW os enc
 have hok:Input.okWideB Tryz.prog ((World.laidAll Tryz.prog os Rows.topToldRow.laid).forCall (fun _ _=>0) ⟨#[],DL,[]⟩) 14 ⟨#[],DL,[]⟩=true:=by kernel_rfl
 refine returnsInHanded_of_row (C:=Tryz.checked) (s:=OpenSpec.ofChange Rows.topToldSpec) PD started AA Tryz.func14
  ⟨(World.laidAll Tryz.prog os Rows.topToldRow.laid),fun _ _=>0,⟨#[],DL,[]⟩,World.laidAll_os _ _ _,World.shaped_of_ZipB AA AA,(Input.okWide_of_okWideB (base:=0) hok).1,(Input.okWide_of_okWideB hok).2,
   OpenSpec.preRow_of_cond 8 hx AA (fun k hk=>by cases hk) AA (PC os _),by
   simp only [Assume.holds]
   exact ⟨by simp,by simp,by simp,by simp,by simp⟩⟩ ?_
 intro W base args ds gs before hval0 hW _ hk _ hL hsh _
 have hval:∀(j:Nat) t v,Tryz.f14.params[j]? =some t→args[j]? =some v→Value.okWide Tryz.prog W .any base t v:=hval0
 have hW':=hW
 obtain ⟨p,q,hA0,hV,rfl,hfz,hnd⟩:=hW
 have hA:DataW.TrodAll enc Tryz.prog W 0 (fun _=>true) true Tryz.f14.params.toList args.toList ds p:=hA0
 rw [Tryz.params14] at hA hval
 obtain ⟨v0,vs0,d0,ds0,p0,q0,hargs,rfl,rfl,h0,r0⟩:=trodAll_cons hA
 obtain ⟨rfl,rfl,rfl⟩:=trodAll_nil r0
 obtain rfl:args=#[v0]:=by cases args;simp_all
 obtain ⟨rfl,rfl⟩:=trodVars_none hV
 have lt0:∀x∈p0,x.block<W.heap.size:=by obtain ⟨m,hm⟩:=h0;exact DataW.trod_lt m _ _ _ hm
 refine (Nr W (hval 0 37 v0 rfl rfl) h0 lt0 hsh).mono fun e W' ⟨he,bel⟩=>?_
 subst he
 exact ⟨_,rfl,_,_,_,[],_,[],hW',trodAll_mk1 (shut_bool Tryz.underlying4 _),(trodAll_cons_mk (Below.trod KN AA (of_decide_eq_true AA) h0 bel lt0) trodAll_mk0),rfl,bel.frame _,fun h=>by cases h⟩
theorem Nq:Rows.TopToldSaid:=
 OpenClaim.holds_of_cond 14 Tryz.f14 rfl rfl rfl rfl rfl rfl rfl ⟨rfl,rfl,rfl,rfl,rfl⟩ rfl rfl rfl rfl rfl AA Tryz.func14 AA
  (of_decide_eq_true AA) (by unfold Func.isWrapper;rw [if_neg (by decide+kernel)];exact ⟨rfl,rfl⟩)
  (fun os started H enc _ F=>by rw [OpenClaim.pre_eq_preRow];exact Ky os started H enc F)
theorem KO(f:FuncId)(fn:Func)(hf:Tryz.pinned.checked.prog.funcNamed "mezzotint/mezzotinttop.TopTold" =some f)(hfn:Tryz.pinned.checked.prog.funcs[f]? =some fn):
 false=Tryz.pinned.checked.prog.looks []∧∀(j:Nat) t,fn.params[j]? =some t→Tryz.pinned.checked.prog.wantsStandIn t=false:=by
 obtain rfl:f=14:=Option.some.inj ((show Tryz.prog.funcNamed "mezzotint/mezzotinttop.TopTold" =some 14 by kernel_rfl).symm.trans hf) |>.symm
 obtain rfl:fn=Tryz.f14:=(Option.some.inj (Tryz.func14.symm.trans hfn)).symm
 refine ⟨by kernel_rfl,fun j t ht=>?_⟩
 rw [Tryz.params14] at ht
 have hm:t∈([37]:List Nat):=by simpa using Array.mem_of_getElem? ht
 have hall:(([37]:List Nat).all fun u=>!Tryz.prog.wantsStandIn u)=true:=by kernel_rfl
 exact (show Tryz.prog.wantsStandIn t=false by simpa using List.all_eq_true.1 hall t hm)
theorem TopTold_proved:Rows.TopToldCardSaid:=
 Claim7.holds_tied_plain_at .later [] _ _ _ _ Nq (fun _ h=>by cases h) AA (fun _ h=>by cases h) topTold_row_tie rfl ⟨rfl,rfl⟩ AA rfl KO AA
end Go.Proofs.YtohacgmhmbijmaaGreatDoor
