/- The law FrameThree: its walk, and the statement. -/
import Derived.Test.YtohacgmhmbijmaaGreatDoorBaseTZ2
import Derived.Test.YtohacgmhmbijmaaGreatDoorBaseTZ3
import Derived.Test.YtohacgmhmbijmaaGreatDoorBaseTZ4
import Derived.Test.YtohacgmhmbijmaaGreatDoorBaseTZ5
import Derived.Test.YtohacgmhmbijmaaGreatDoorBaseTZ16
import Derived.Test.YtohacgmhmbijmaaGreatDoorBaseTZ18
import Derived.Test.YtohacgmhmbijmaaGreatDoorRows
import Derived.Test.YtohacgmhmbijmaaGreatDoorCards
import Derived.Test.YtohacgmhmbijmaaGreatDoorTie
import Derived.Deep.DeepHandedRow
import Derived.Lay
import Derived.SevenTiedAt
namespace Go.Proofs.YtohacgmhmbijmaaGreatDoor
attribute [local irreducible] Region.wanted
open Go.ChangeShapes Go.WideShapes Go.ChangeAt Go.RowKit
set_option linter.unusedVariables false
set_option maxRecDepth 100000
set_option maxHeartbeats 8000000
theorem JD{H:Type}{enc:TypeId×Value→H}{d0 d1:DataW H}{p0 p1:List MemPlace}{v0 v1:Value}{base:Nat}(W:World)
 (o0:Value.okWide Tryz.prog W .any base 24 v0) (h0:DataW.Trod enc Tryz.prog W 0 (fun _=>true) true 24 v0 d0 p0) (lt0:∀x∈p0,x.block<W.heap.size)
 (o1:Value.okWide Tryz.prog W .any base 26 v1) (h1:DataW.Trod enc Tryz.prog W 0 (fun _=>true) true 26 v1 d1 p1) (lt1:∀x∈p1,x.block<W.heap.size)
 (hsh:W.ShapedOpen Tryz.prog):
 Calls Tryz.prog 8 #[v0,v1] W fun e w'=>e= .returned (.bool true)∧Al W w':=by
 obtain ⟨m,h,a,c,R,rfl,hm,hh,hRc,hcm,hPT⟩:=Z4 o0 h0
 obtain ⟨q,hq,rfl,_⟩:=Ub o1
 have hml:∃m,W.cell? ⟨0,0,none⟩=some (.int .i64 m):=Tryz.laysM185.s1_3 W hsh
 clear o0 h0 lt0 o1 h1 lt1 hsh
 have hS:=St.start W
 have HML:=AD hml
 have hRm:R.length≤9223372036854775807:=Nat.le_trans hRc hcm
 have hB:=fun (w:World)(hx:Al W w)=>Ez w m h hm a c R hRm (hPT.ext hx) q hq
 obtain ⟨E,hEE⟩:∃E,J4 m h q (R.map (·.xs))=E:=⟨_,rfl⟩
 rw [hEE] at hB
 obtain ⟨np,hnp⟩:∃np,R.length=np:=⟨_,rfl⟩
 by_cases hz:E=0
 case neg=>
  rw [hnp] at hB
  rw [hnp]
  have HB:=AD fun w hx=>(hB w hx).mono fun e w' hh=>hh.1 hz
  clear hB hPT hEE hml hnp
  go_enter Tryz.func8,Tryz.ntmps8
  repeat' (first
   | (refine A3 15 ?_);refine A4 AA Tryz.call15 (Gc _ (HML.out.imp fun m h=>hS.1.cell h)) (Gb hS ?_);clear hS;intro w hS;go_step|(refine A3 19 ?_);refine A4 AA Tryz.call19 (HB.out _ hS.1) (Gb hS ?_);clear hS;intro w hS;go_step|go_skip|refine X0 ?_|refine IL ?_|refine Es 27 ?_ ?_<;>intro hB<;>(try exact AW)<;>go_step|refine IA 35 ?_ ?_<;>intro hB<;>(try exact AW)<;>go_step|refine NW ?_|refine X6 ?_|refine TF ?_|refine TT ?_|refine PF 2 ?_;clear hS;intro g2 w hS|refine MD 3 ?_;clear hS;intro g3 w hS|refine TG ?_|refine IK ?_|refine AG ?_;go_step|fail)
  all_goals (try exact AW)
  all_goals
   go_ret
   exact ⟨rfl,hS.1⟩
 subst hz
 by_cases h3:np=3
 case neg=>
  rw [hnp] at hB
  rw [hnp]
  obtain ⟨K,hK⟩:∃K,np*Aq m h=K:=⟨_,rfl⟩
  have HB:=AD fun w hx=>(hB w hx).mono fun e w' hh=>hh.2 rfl
  have hn3:(np:Int)≠3:=by omega
  have hnm:np≤9223372036854775807:=by omega
  clear hB hPT hEE hml hnp
  go_enter Tryz.func8,Tryz.ntmps8
  repeat' (first
   | (refine A3 15 ?_);refine A4 AA Tryz.call15 (Gc _ (HML.out.imp fun m h=>hS.1.cell h)) (Gb hS ?_);clear hS;intro w hS;go_step|(refine A3 19 ?_);refine A4 AA Tryz.call19 (HB.out _ hS.1) ?_;rintro e w ⟨ao,co,rfl,hS2⟩;replace hS:=hS.call1 hS2;clear hS2;refine Ae ?_;go_step|go_skip|refine X0 ?_|refine IL ?_|refine Es 27 ?_ ?_<;>intro hB<;>(try exact AW)<;>go_step|refine IA 35 ?_ ?_<;>intro hB<;>(try exact AW)<;>go_step|refine NW ?_|refine X6 ?_|refine YE ?_|refine TU ?_|refine IJ ?_|refine PF 2 ?_;clear hS;intro g2 w hS|refine MD 3 ?_;clear hS;intro g3 w hS|refine TG ?_|refine IK ?_|refine WX ?_|refine AG ?_;go_step|fail)
  all_goals (try exact AW)
  all_goals
   go_ret
   exact ⟨rfl,hS.1⟩
 subst h3
 obtain ⟨⟨a0,c0,l0⟩,⟨a1,c1,l1⟩,⟨a2,c2,l2⟩,rfl⟩:∃x y z,R=[x,y,z]:=by
  match R,hnp with
  | [x,y,z],_=>exact ⟨x,y,z,rfl⟩
 have hEE':J4 m h q [l0,l1,l2]=0:=hEE
 obtain ⟨hpz,hqk⟩:=OA hEE'
 obtain ⟨hok,hlen,hpa⟩:=IY hpz
 obtain ⟨_,e0,s0⟩:=CU (hpa l0 (by simp))
 obtain ⟨_,e1,s1⟩:=CU (hpa l1 (by simp))
 obtain ⟨_,e2,s2⟩:=CU (hpa l2 (by simp))
 obtain ⟨k0,k1⟩:=Ds m h 64 64 (by omega) (by omega)
 obtain ⟨M,hM⟩:∃M,l0.length=M:=⟨_,rfl⟩
 have hM1:M≤4096:=by omega
 have h1:l1.length=M:=by omega
 have h2:l2.length=M:=by omega
 have b0:=(DE l0).1 s0
 have b1:=(DE l1).1 s1
 have b2:=(DE l2).1 s2
 rw [hM] at b0;rw [h1] at b1;rw [h2] at b2
 have hsl:Sl W 1 (.slice a 3 c) 3 [.slice a0 M c0, .slice a1 M c1, .slice a2 M c2]:=by
  have:=hPT.sl
  simpa [Rw.val,hM,h1,h2] using this
 have hv0:Sl W 1 (.slice a0 M c0) M (l0.map (Value.int .i64)):=by have:=hPT.row ⟨a0,c0,l0⟩ (by simp);simpa [Rw.val,hM] using this
 have hv1:Sl W 1 (.slice a1 M c1) M (l1.map (Value.int .i64)):=by have:=hPT.row ⟨a1,c1,l1⟩ (by simp);simpa [Rw.val,h1] using this
 have hv2:Sl W 1 (.slice a2 M c2) M (l2.map (Value.int .i64)):=by have:=hPT.row ⟨a2,c2,l2⟩ (by simp);simpa [Rw.val,h2] using this
 obtain ⟨n,hn⟩:∃n,3*Aq m h=n:=⟨_,rfl⟩
 have hfr:=W6 NP NN NO Yi Yg Yh hEE'
 obtain ⟨B,hB'⟩:∃B,LC m h q [l0,l1,l2]=B:=⟨_,rfl⟩
 have HB:Hid (∀w,Al W w→Calls Tryz.prog 19 #[.agg #[.int .i64 m, .int .i64 h, .slice a 3 c], .agg (iv q)] w fun e w'=>∃(ao:Option Addr) (co:Nat),e= .returned (.tuple #[.slice ao n co, .int .i64 0])∧St w w' [own 26 64 ao n co (B.map (Value.int .i64))]):=fun w hx=>by
  refine (hB w hx).mono fun e w' hh=>?_
  have:=hh.2 rfl
  rw [show LC m h q (([⟨a0,c0,l0⟩,⟨a1,c1,l1⟩,⟨a2,c2,l2⟩]:List Rw).map (·.xs))=B from hB',show ([⟨a0,c0,l0⟩,⟨a1,c1,l1⟩,⟨a2,c2,l2⟩]:List Rw).length=3 from rfl,hn] at this
  exact this
 show Calls Tryz.prog _ #[.agg #[.int .i64 m, .int .i64 h, .slice a 3 c], .agg (iv q)] W _
 obtain ⟨F0,hF0⟩:∃F:Nat→Int,(fun x=>NP (AK l0 x) (AK l1 x) (AK l2 x))=F:=⟨_,rfl⟩
 obtain ⟨F1,hF1⟩:∃F:Nat→Int,(fun x=>NN (AK l0 x) (AK l1 x) (AK l2 x))=F:=⟨_,rfl⟩
 obtain ⟨F2,hF2⟩:∃F:Nat→Int,(fun x=>NO (AK l0 x) (AK l1 x) (AK l2 x))=F:=⟨_,rfl⟩
 have z0:z3 NP l0 l1 l2=Do M F0:=by unfold z3;rw [hM,←hF0]
 have z1:z3 NN l0 l1 l2=Do M F1:=by unfold z3;rw [hM,←hF1]
 have z2:z3 NO l0 l1 l2=Do M F2:=by unfold z3;rw [hM,←hF2]
 have hpl:=(W5 m h q l0 l1 l2).symm.trans hB'
 have hfr:∀k l,[Do M F0,Do M F1,Do M F2][k]? =some l→J4 m h q [l]=0:=fun k l hk=>by
  refine hfr l ?_
  rw [←z0,←z1,←z2] at hk
  exact List.mem_of_getElem? hk
 rw [z0,z1,z2] at hpl
 have HF:Hid ((∀x,NP (AK l0 x) (AK l1 x) (AK l2 x)=F0 x)∧(∀x,NN (AK l0 x) (AK l1 x) (AK l2 x)=F1 x)∧(∀x,NO (AK l0 x) (AK l1 x) (AK l2 x)=F2 x)):=⟨fun x=>by rw [←hF0],fun x=>by rw [←hF1],fun x=>by rw [←hF2]⟩
 have HPL:=AD hpl
 have HM:=AD hm
 have HFR:=AD hfr
 clear hF0 hF1 hF2 z0 z1 z2 hpl hfr
 have HH:=AD (And.intro hEE (And.intro hn hok))
 have B0:=AD b0
 have B1:=AD b1
 have B2:=AD b2
 have HL:=AD (And.intro hM (And.intro h1 (And.intro h2 e0)))
 clear hEE hEE' hB' hn hok hpz hqk hlen hpa s0 s1 s2 b0 b1 b2 hM h1 h2 e0 e1 e2 k0 k1 hPT hB hml hm hh hnp hRm hRc
 obtain ⟨pb,po,rfl,hcell⟩:=EC hsl (by omega)
 have hq0:W.cell? ⟨pb,po,none⟩=some (.slice a0 M c0):=hcell 0 _ rfl
 have hq1:W.cell? ⟨pb,po+1,none⟩=some (.slice a1 M c1):=hcell 1 _ rfl
 have hq2:W.cell? ⟨pb,po+2,none⟩=some (.slice a2 M c2):=hcell 2 _ rfl
 clear hcell
 go_enter Tryz.func8,Tryz.ntmps8
 repeat' (first
  | (refine A3 15 ?_);refine A4 AA Tryz.call15 (Gc _ (HML.out.imp fun m h=>hS.1.cell h)) (Gb hS ?_);clear hS;intro w hS;go_step|(refine A3 19 ?_);refine A4 AA Tryz.call19 (HB.out _ hS.1) ?_;rintro e w ⟨ao,co,rfl,hS2⟩;replace hS:=hS.call1 hS2;clear hS2;refine Ae ?_;go_step|refine X0 ?_|refine Gz ?_|refine Es 27 ?_ ?_<;>intro hB<;>(try exact AW)<;>go_step|refine NW ?_|refine X6 ?_|refine YE ?_|refine TU ?_|refine IJ ?_|refine PF 2 ?_;clear hS;intro g2 w hS|refine MD 3 ?_;clear hS;intro g3 w hS|refine TG ?_|refine IK ?_|refine WX ?_|refine AG ?_;go_step|fail)
 all_goals (try exact AW)
 repeat' (first
  | refine X0 ?_|refine YE ?_|(refine AS 44 ?_);(refine As AA (V.indexSl Tryz.underlying22 I0 rfl rfl (show Bq 0 0 from rfl) (by omega) (show 0*1=0 from rfl) BO) ?_;go_step)|refine TV ?_|(refine AS 41 ?_);(refine Ag ?_;apply AU (o:=⟨some 41,_,_,_,_,_⟩) hS 22 3 _ rfl 30 1 24 Wq _ _;(case hvs=>(repeat (first|exact AX.nil|(apply AX.agg;(rfl);(rfl))|(apply AX.one;exact CG;(rfl);(rfl)))));(case hn=>rfl);(case hn0=>decide);(case hns=>decide);clear hS;intro g41 w hS;refine AB ?_;go_step)|refine WX ?_|refine YH ?_|refine AG ?_;go_step|fail)
 all_goals (try exact AW)
 replace hS:=((hS.nilk 3 1 .i64).nilk 3 1 .i64).nilk 3 1 .i64
 go_loopg [47] M (fun gk kv w=>∃(i:Nat) (p0 p1 p2:Option Addr) (k0 k1 k2:Nat),gk+i=M∧kv= .int .i64 i∧St W w [blk g2 [.int .i64 m, .int .i64 h, .slice (some ⟨pb,po,none⟩) 3 c],arr g3 64 q,own 26 64 ao n co (B.map (Value.int .i64)),blk g41 [.slice p0 i k0, .slice p1 i k1, .slice p2 i k2],own 3 1 p0 i k0 ((Do i F0).map (Value.int .i64)),own 3 1 p1 i k1 ((Do i F1).map (Value.int .i64)),own 3 1 p2 i k2 ((Do i F2).map (Value.int .i64))])
 case atStart=>exact ⟨0,none,none,none,0,0,0,by omega,rfl,by rw [show Do 0 F0=[] from rfl,show Do 0 F1=[] from rfl,show Do 0 F2=[] from rfl];exact hS.sub AV⟩
 case round=>
  clear hS
  obtain ⟨i,p0,p1,p2,k0,k1,k2,hi,rfl,hS⟩:=hrel
  by_cases hlt:i<M
  ·obtain ⟨x0,y0,rfl,hx0⟩:=F9 hv0 (by omega)
   obtain ⟨x1,y1,rfl,hx1⟩:=F9 hv1 (by omega)
   obtain ⟨x2,y2,rfl,hx2⟩:=F9 hv2 (by omega)
   replace hx0:=hx0 i hlt
   replace hx1:=hx1 i hlt
   replace hx2:=hx2 i hlt
   have HC:=AD fun w=>YP.run (AK l0 i) (AK l1 i) (AK l2 i) w (B0.out i hlt) (B1.out i hlt) (B2.out i hlt)
   rw [HF.out.1 i,HF.out.2.1 i,HF.out.2.2 i] at HC
   have t0:=Ka F0 i
   have t1:=Ka F1 i
   have t2:=Ka F2 i
   have HT:=AD (And.intro t0 (And.intro t1 t2))
   clear t0 t1 t2
   repeat' (first
    | refine X0 ?_|refine X2 ?_|refine AG ?_;go_step|fail)
   all_goals (try exact AW)
   refine AQ [21] (fun w=>St W w [blk g2 [.int .i64 m, .int .i64 h, .slice (some ⟨pb,po,none⟩) 3 c]]) AA ?_
   replace hS:=hS.drew
   focus
    refine Bf 0 BU (V.fieldAddr IR rfl BO) ?_;go_step
    refine bp 1 [2,3,5,6,21,22,23,24,25,26,27,28,29,30] ?_
    refine Y8 2 ?_
    refine YL 3 [5,6,21,22,23,24,25,26,27,28,29,30] ?_
    refine Ab 4 ?_
    refine O7 5 ?_
    refine WZ 6 [21,22,23,24,25,26,27,28,29,30] ?_
    refine Bf 7 BU (V.fieldAddr IR rfl BO) ?_;go_step
    refine bp 8 [9,10,12,13,21,22,23,24,25,26,27,28,29,30] ?_
    refine Y9 9 ?_
    refine YL 10 [12,13,21,22,23,24,25,26,27,28,29,30] ?_
    refine Ab 11 ?_
    refine O7 12 ?_
    refine WZ 13 [21,22,23,24,25,26,27,28,29,30] ?_
    refine Bf 14 BU (V.fieldAddr IR rfl BO) ?_;go_step
    refine bp 15 [16,17,19,20,21,22,23,24,25,26,27,28,29,30] ?_
    refine MF 16 ?_
    refine YL 17 [19,20,21,22,23,24,25,26,27,28,29,30] ?_
    refine Ab 18 ?_
    refine O7 19 ?_
    refine WZ 20 [21,22,23,24,25,26,27,28,29,30] ?_
    refine Aa 21 ?_
    refine Af (f:=30) rfl Tryz.call30 (HC.out _) ?_;rintro e w ⟨rfl,hE⟩;replace hS:=hS.ext hE;clear hE;refine ⟨_,rfl,?_⟩
    refine ⟨fun h=>absurd (by decide) h,?_⟩
    refine AF ?_
    go_step
    refine Ab 22 ?_
    refine Y4 23 ?_
    refine Y4 24 ?_
    refine Y4 25 ?_
    refine Y4 26 ?_
    refine Ab 27 ?_
    refine Ab 28 ?_
    refine Ab 29 ?_
    refine Ab 30 ?_
    refine AE AA ?_ _
   repeat' (first
    | refine X1 ?_|refine X3 ?_|refine AG ?_;go_step|fail)
   all_goals (try exact AW)
   refine AQ [20,22,24,26] (fun w=>St W w [blk g41 [.slice p0 i k0, .slice p1 i k1, .slice p2 i k2]]) AA ?_
   replace hS:=hS.drew
   focus
    refine Ab 0 ?_
    refine Ab 1 ?_
    refine Ab 2 ?_
    refine Ab 3 ?_
    refine Y8 4 ?_
    refine bq 5 [8,14,20,21,22,23,24,25,26] ?_
    refine Ab 6 ?_
    refine Ab 9 ?_
    refine Y9 10 ?_
    refine bq 11 [14,20,21,22,23,24,25,26] ?_
    refine Ab 12 ?_
    refine Ab 15 ?_
    refine MF 16 ?_
    refine bq 17 [20,21,22,23,24,25,26] ?_
    refine Ab 18 ?_
    refine A1 [7,13,19] AA (by simp) (.cons Am AA ?_ (.cons Am AA ?_ (.cons Am AA ?_ (.nil))))
    rotate_left 2
    focus
     refine Y6 ?_;clear hS;intro g98 w hS
     refine A1 [7,13] AA (by simp) (.cons Am AA ?_ (.cons Am AA ?_ (.nil)))
     rotate_left 1
     focus
      refine Y6 ?_;clear hS;intro g92 w hS
      refine Aa 7 ?_
      refine Y6 ?_;clear hS;intro g86 w hS
      refine Aa 8 ?_
      (refine AO (o:=⟨some 87,_,_,_,_,_⟩) hS _ _ 30 rfl 3 1 8 Bj _ _ _ _ rfl AJ _ rfl _ _ (by (first|exact hS.slBlk AJ (by rfl) (by decide)|exact hS.sl AJ|with_reducible assumption|exact Sl.ext (by with_reducible assumption) hS.1|exact Sl.nil _ _|exact Sl.ext (by assumption) hS.1|assumption)) (by (first|exact Ad rfl|exact Ac _ _|(intro u hu;cases hu))) (by unfold maxLen;omega) (by omega) ?_;clear hS;intro ad87 c87 w hS;(first|simp only [Av] at hS|simp only [Aw] at hS|simp only [Ax] at hS|simp only [Ay] at hS|simp only [Az] at hS|skip))
      refine ⟨fun _ _=>hS.sub AV,?_⟩
      refine AF ?_
      go_step
      refine Aa 14 ?_
      (refine AO (o:=⟨some 93,_,_,_,_,_⟩) hS _ _ 30 rfl 3 1 8 Bj _ _ _ _ rfl AJ _ rfl _ _ (by (first|exact hS.slBlk AJ (by rfl) (by decide)|exact hS.sl AJ|with_reducible assumption|exact Sl.ext (by with_reducible assumption) hS.1|exact Sl.nil _ _|exact Sl.ext (by assumption) hS.1|assumption)) (by (first|exact Ad rfl|exact Ac _ _|(intro u hu;cases hu))) (by unfold maxLen;omega) (by omega) ?_;clear hS;intro ad93 c93 w hS;(first|simp only [Av] at hS|simp only [Aw] at hS|simp only [Ax] at hS|simp only [Ay] at hS|simp only [Az] at hS|skip))
      refine ⟨fun _ _=>hS.sub AV,?_⟩
      refine AF ?_
      go_step
      refine Aa 20 ?_
      (refine AO (o:=⟨some 99,_,_,_,_,_⟩) hS _ _ 30 rfl 3 1 8 Bj _ _ _ _ rfl AJ _ rfl _ _ (by (first|exact hS.slBlk AJ (by rfl) (by decide)|exact hS.sl AJ|with_reducible assumption|exact Sl.ext (by with_reducible assumption) hS.1|exact Sl.nil _ _|exact Sl.ext (by assumption) hS.1|assumption)) (by (first|exact Ad rfl|exact Ac _ _|(intro u hu;cases hu))) (by unfold maxLen;omega) (by omega) ?_;clear hS;intro ad99 c99 w hS;(first|simp only [Av] at hS|simp only [Aw] at hS|simp only [Ax] at hS|simp only [Ay] at hS|simp only [Az] at hS|skip))
      refine ⟨fun h=>absurd (by decide) h,?_⟩
      refine AF ?_
      go_step
      refine Y8 21 ?_
      refine Aa 22 ?_
      refine Y1 ?_;clear hS;intro w hS
      refine Y9 23 ?_
      refine Aa 24 ?_
      refine Y1 ?_;clear hS;intro w hS
      refine MF 25 ?_
      refine Aa 26 ?_
      refine Y1 ?_;clear hS;intro w hS
      refine AE AA ?_ _
     rotate_right 1
     focus
      refine Y6 ?_;clear hS;intro g86 w hS
      refine A1 [8,13] AA (by simp) (.cons Am AA ?_ (.cons Am AA ?_ (.nil)))
      rotate_left 1
      focus
       refine Y6 ?_;clear hS;intro g92 w hS
       refine Aa 8 ?_
       (refine AO (o:=⟨some 87,_,_,_,_,_⟩) hS _ _ 30 rfl 3 1 8 Bj _ _ _ _ rfl AJ _ rfl _ _ (by (first|exact hS.slBlk AJ (by rfl) (by decide)|exact hS.sl AJ|with_reducible assumption|exact Sl.ext (by with_reducible assumption) hS.1|exact Sl.nil _ _|exact Sl.ext (by assumption) hS.1|assumption)) (by (first|exact Ad rfl|exact Ac _ _|(intro u hu;cases hu))) (by unfold maxLen;omega) (by omega) ?_;clear hS;intro ad87 c87 w hS;(first|simp only [Av] at hS|simp only [Aw] at hS|simp only [Ax] at hS|simp only [Ay] at hS|simp only [Az] at hS|skip))
       refine ⟨fun _ _=>hS.sub AV,?_⟩
       refine AF ?_
       go_step
       refine Aa 14 ?_
       (refine AO (o:=⟨some 93,_,_,_,_,_⟩) hS _ _ 30 rfl 3 1 8 Bj _ _ _ _ rfl AJ _ rfl _ _ (by (first|exact hS.slBlk AJ (by rfl) (by decide)|exact hS.sl AJ|with_reducible assumption|exact Sl.ext (by with_reducible assumption) hS.1|exact Sl.nil _ _|exact Sl.ext (by assumption) hS.1|assumption)) (by (first|exact Ad rfl|exact Ac _ _|(intro u hu;cases hu))) (by unfold maxLen;omega) (by omega) ?_;clear hS;intro ad93 c93 w hS;(first|simp only [Av] at hS|simp only [Aw] at hS|simp only [Ax] at hS|simp only [Ay] at hS|simp only [Az] at hS|skip))
       refine ⟨fun _ _=>hS.sub AV,?_⟩
       refine AF ?_
       go_step
       refine Aa 20 ?_
       (refine AO (o:=⟨some 99,_,_,_,_,_⟩) hS _ _ 30 rfl 3 1 8 Bj _ _ _ _ rfl AJ _ rfl _ _ (by (first|exact hS.slBlk AJ (by rfl) (by decide)|exact hS.sl AJ|with_reducible assumption|exact Sl.ext (by with_reducible assumption) hS.1|exact Sl.nil _ _|exact Sl.ext (by assumption) hS.1|assumption)) (by (first|exact Ad rfl|exact Ac _ _|(intro u hu;cases hu))) (by unfold maxLen;omega) (by omega) ?_;clear hS;intro ad99 c99 w hS;(first|simp only [Av] at hS|simp only [Aw] at hS|simp only [Ax] at hS|simp only [Ay] at hS|simp only [Az] at hS|skip))
       refine ⟨fun h=>absurd (by decide) h,?_⟩
       refine AF ?_
       go_step
       refine Y8 21 ?_
       refine Aa 22 ?_
       refine Y1 ?_;clear hS;intro w hS
       refine Y9 23 ?_
       refine Aa 24 ?_
       refine Y1 ?_;clear hS;intro w hS
       refine MF 25 ?_
       refine Aa 26 ?_
       refine Y1 ?_;clear hS;intro w hS
       refine AE AA ?_ _
      rotate_right 1
      focus
       (refine AO (o:=⟨some 87,_,_,_,_,_⟩) hS _ _ 30 rfl 3 1 8 Bj _ _ _ _ rfl AJ _ rfl _ _ (by (first|exact hS.slBlk AJ (by rfl) (by decide)|exact hS.sl AJ|with_reducible assumption|exact Sl.ext (by with_reducible assumption) hS.1|exact Sl.nil _ _|exact Sl.ext (by assumption) hS.1|assumption)) (by (first|exact Ad rfl|exact Ac _ _|(intro u hu;cases hu))) (by unfold maxLen;omega) (by omega) ?_;clear hS;intro ad87 c87 w hS;(first|simp only [Av] at hS|simp only [Aw] at hS|simp only [Ax] at hS|simp only [Ay] at hS|simp only [Az] at hS|skip))
       refine ⟨fun _ _=>hS.sub AV,?_⟩
       refine AF ?_
       go_step
       refine Aa 13 ?_
       refine Y6 ?_;clear hS;intro g92 w hS
       refine Aa 14 ?_
       (refine AO (o:=⟨some 93,_,_,_,_,_⟩) hS _ _ 30 rfl 3 1 8 Bj _ _ _ _ rfl AJ _ rfl _ _ (by (first|exact hS.slBlk AJ (by rfl) (by decide)|exact hS.sl AJ|with_reducible assumption|exact Sl.ext (by with_reducible assumption) hS.1|exact Sl.nil _ _|exact Sl.ext (by assumption) hS.1|assumption)) (by (first|exact Ad rfl|exact Ac _ _|(intro u hu;cases hu))) (by unfold maxLen;omega) (by omega) ?_;clear hS;intro ad93 c93 w hS;(first|simp only [Av] at hS|simp only [Aw] at hS|simp only [Ax] at hS|simp only [Ay] at hS|simp only [Az] at hS|skip))
       refine ⟨fun _ _=>hS.sub AV,?_⟩
       refine AF ?_
       go_step
       refine Aa 20 ?_
       (refine AO (o:=⟨some 99,_,_,_,_,_⟩) hS _ _ 30 rfl 3 1 8 Bj _ _ _ _ rfl AJ _ rfl _ _ (by (first|exact hS.slBlk AJ (by rfl) (by decide)|exact hS.sl AJ|with_reducible assumption|exact Sl.ext (by with_reducible assumption) hS.1|exact Sl.nil _ _|exact Sl.ext (by assumption) hS.1|assumption)) (by (first|exact Ad rfl|exact Ac _ _|(intro u hu;cases hu))) (by unfold maxLen;omega) (by omega) ?_;clear hS;intro ad99 c99 w hS;(first|simp only [Av] at hS|simp only [Aw] at hS|simp only [Ax] at hS|simp only [Ay] at hS|simp only [Az] at hS|skip))
       refine ⟨fun h=>absurd (by decide) h,?_⟩
       refine AF ?_
       go_step
       refine Y8 21 ?_
       refine Aa 22 ?_
       refine Y1 ?_;clear hS;intro w hS
       refine Y9 23 ?_
       refine Aa 24 ?_
       refine Y1 ?_;clear hS;intro w hS
       refine MF 25 ?_
       refine Aa 26 ?_
       refine Y1 ?_;clear hS;intro w hS
       refine AE AA ?_ _
    rotate_right 1
    focus
     refine Y6 ?_;clear hS;intro g92 w hS
     refine A1 [7,19] AA (by simp) (.cons Am AA ?_ (.cons Am AA ?_ (.nil)))
     rotate_left 1
     focus
      refine Y6 ?_;clear hS;intro g98 w hS
      refine Aa 7 ?_
      refine Y6 ?_;clear hS;intro g86 w hS
      refine Aa 8 ?_
      (refine AO (o:=⟨some 87,_,_,_,_,_⟩) hS _ _ 30 rfl 3 1 8 Bj _ _ _ _ rfl AJ _ rfl _ _ (by (first|exact hS.slBlk AJ (by rfl) (by decide)|exact hS.sl AJ|with_reducible assumption|exact Sl.ext (by with_reducible assumption) hS.1|exact Sl.nil _ _|exact Sl.ext (by assumption) hS.1|assumption)) (by (first|exact Ad rfl|exact Ac _ _|(intro u hu;cases hu))) (by unfold maxLen;omega) (by omega) ?_;clear hS;intro ad87 c87 w hS;(first|simp only [Av] at hS|simp only [Aw] at hS|simp only [Ax] at hS|simp only [Ay] at hS|simp only [Az] at hS|skip))
      refine ⟨fun _ _=>hS.sub AV,?_⟩
      refine AF ?_
      go_step
      refine Aa 14 ?_
      (refine AO (o:=⟨some 93,_,_,_,_,_⟩) hS _ _ 30 rfl 3 1 8 Bj _ _ _ _ rfl AJ _ rfl _ _ (by (first|exact hS.slBlk AJ (by rfl) (by decide)|exact hS.sl AJ|with_reducible assumption|exact Sl.ext (by with_reducible assumption) hS.1|exact Sl.nil _ _|exact Sl.ext (by assumption) hS.1|assumption)) (by (first|exact Ad rfl|exact Ac _ _|(intro u hu;cases hu))) (by unfold maxLen;omega) (by omega) ?_;clear hS;intro ad93 c93 w hS;(first|simp only [Av] at hS|simp only [Aw] at hS|simp only [Ax] at hS|simp only [Ay] at hS|simp only [Az] at hS|skip))
      refine ⟨fun _ _=>hS.sub AV,?_⟩
      refine AF ?_
      go_step
      refine Aa 20 ?_
      (refine AO (o:=⟨some 99,_,_,_,_,_⟩) hS _ _ 30 rfl 3 1 8 Bj _ _ _ _ rfl AJ _ rfl _ _ (by (first|exact hS.slBlk AJ (by rfl) (by decide)|exact hS.sl AJ|with_reducible assumption|exact Sl.ext (by with_reducible assumption) hS.1|exact Sl.nil _ _|exact Sl.ext (by assumption) hS.1|assumption)) (by (first|exact Ad rfl|exact Ac _ _|(intro u hu;cases hu))) (by unfold maxLen;omega) (by omega) ?_;clear hS;intro ad99 c99 w hS;(first|simp only [Av] at hS|simp only [Aw] at hS|simp only [Ax] at hS|simp only [Ay] at hS|simp only [Az] at hS|skip))
      refine ⟨fun h=>absurd (by decide) h,?_⟩
      refine AF ?_
      go_step
      refine Y8 21 ?_
      refine Aa 22 ?_
      refine Y1 ?_;clear hS;intro w hS
      refine Y9 23 ?_
      refine Aa 24 ?_
      refine Y1 ?_;clear hS;intro w hS
      refine MF 25 ?_
      refine Aa 26 ?_
      refine Y1 ?_;clear hS;intro w hS
      refine AE AA ?_ _
     rotate_right 1
     focus
      refine Y6 ?_;clear hS;intro g86 w hS
      refine A1 [8,19] AA (by simp) (.cons Am AA ?_ (.cons Am AA ?_ (.nil)))
      rotate_left 1
      focus
       refine Y6 ?_;clear hS;intro g98 w hS
       refine Aa 8 ?_
       (refine AO (o:=⟨some 87,_,_,_,_,_⟩) hS _ _ 30 rfl 3 1 8 Bj _ _ _ _ rfl AJ _ rfl _ _ (by (first|exact hS.slBlk AJ (by rfl) (by decide)|exact hS.sl AJ|with_reducible assumption|exact Sl.ext (by with_reducible assumption) hS.1|exact Sl.nil _ _|exact Sl.ext (by assumption) hS.1|assumption)) (by (first|exact Ad rfl|exact Ac _ _|(intro u hu;cases hu))) (by unfold maxLen;omega) (by omega) ?_;clear hS;intro ad87 c87 w hS;(first|simp only [Av] at hS|simp only [Aw] at hS|simp only [Ax] at hS|simp only [Ay] at hS|simp only [Az] at hS|skip))
       refine ⟨fun _ _=>hS.sub AV,?_⟩
       refine AF ?_
       go_step
       refine Aa 14 ?_
       (refine AO (o:=⟨some 93,_,_,_,_,_⟩) hS _ _ 30 rfl 3 1 8 Bj _ _ _ _ rfl AJ _ rfl _ _ (by (first|exact hS.slBlk AJ (by rfl) (by decide)|exact hS.sl AJ|with_reducible assumption|exact Sl.ext (by with_reducible assumption) hS.1|exact Sl.nil _ _|exact Sl.ext (by assumption) hS.1|assumption)) (by (first|exact Ad rfl|exact Ac _ _|(intro u hu;cases hu))) (by unfold maxLen;omega) (by omega) ?_;clear hS;intro ad93 c93 w hS;(first|simp only [Av] at hS|simp only [Aw] at hS|simp only [Ax] at hS|simp only [Ay] at hS|simp only [Az] at hS|skip))
       refine ⟨fun _ _=>hS.sub AV,?_⟩
       refine AF ?_
       go_step
       refine Aa 20 ?_
       (refine AO (o:=⟨some 99,_,_,_,_,_⟩) hS _ _ 30 rfl 3 1 8 Bj _ _ _ _ rfl AJ _ rfl _ _ (by (first|exact hS.slBlk AJ (by rfl) (by decide)|exact hS.sl AJ|with_reducible assumption|exact Sl.ext (by with_reducible assumption) hS.1|exact Sl.nil _ _|exact Sl.ext (by assumption) hS.1|assumption)) (by (first|exact Ad rfl|exact Ac _ _|(intro u hu;cases hu))) (by unfold maxLen;omega) (by omega) ?_;clear hS;intro ad99 c99 w hS;(first|simp only [Av] at hS|simp only [Aw] at hS|simp only [Ax] at hS|simp only [Ay] at hS|simp only [Az] at hS|skip))
       refine ⟨fun h=>absurd (by decide) h,?_⟩
       refine AF ?_
       go_step
       refine Y8 21 ?_
       refine Aa 22 ?_
       refine Y1 ?_;clear hS;intro w hS
       refine Y9 23 ?_
       refine Aa 24 ?_
       refine Y1 ?_;clear hS;intro w hS
       refine MF 25 ?_
       refine Aa 26 ?_
       refine Y1 ?_;clear hS;intro w hS
       refine AE AA ?_ _
      rotate_right 1
      focus
       (refine AO (o:=⟨some 87,_,_,_,_,_⟩) hS _ _ 30 rfl 3 1 8 Bj _ _ _ _ rfl AJ _ rfl _ _ (by (first|exact hS.slBlk AJ (by rfl) (by decide)|exact hS.sl AJ|with_reducible assumption|exact Sl.ext (by with_reducible assumption) hS.1|exact Sl.nil _ _|exact Sl.ext (by assumption) hS.1|assumption)) (by (first|exact Ad rfl|exact Ac _ _|(intro u hu;cases hu))) (by unfold maxLen;omega) (by omega) ?_;clear hS;intro ad87 c87 w hS;(first|simp only [Av] at hS|simp only [Aw] at hS|simp only [Ax] at hS|simp only [Ay] at hS|simp only [Az] at hS|skip))
       refine ⟨fun _ _=>hS.sub AV,?_⟩
       refine AF ?_
       go_step
       refine A1 [14,19] AA (by simp) (.cons Am AA ?_ (.cons Am AA ?_ (.nil)))
       rotate_left 1
       focus
        refine Y6 ?_;clear hS;intro g98 w hS
        refine Aa 14 ?_
        (refine AO (o:=⟨some 93,_,_,_,_,_⟩) hS _ _ 30 rfl 3 1 8 Bj _ _ _ _ rfl AJ _ rfl _ _ (by (first|exact hS.slBlk AJ (by rfl) (by decide)|exact hS.sl AJ|with_reducible assumption|exact Sl.ext (by with_reducible assumption) hS.1|exact Sl.nil _ _|exact Sl.ext (by assumption) hS.1|assumption)) (by (first|exact Ad rfl|exact Ac _ _|(intro u hu;cases hu))) (by unfold maxLen;omega) (by omega) ?_;clear hS;intro ad93 c93 w hS;(first|simp only [Av] at hS|simp only [Aw] at hS|simp only [Ax] at hS|simp only [Ay] at hS|simp only [Az] at hS|skip))
        refine ⟨fun _ _=>hS.sub AV,?_⟩
        refine AF ?_
        go_step
        refine Aa 20 ?_
        (refine AO (o:=⟨some 99,_,_,_,_,_⟩) hS _ _ 30 rfl 3 1 8 Bj _ _ _ _ rfl AJ _ rfl _ _ (by (first|exact hS.slBlk AJ (by rfl) (by decide)|exact hS.sl AJ|with_reducible assumption|exact Sl.ext (by with_reducible assumption) hS.1|exact Sl.nil _ _|exact Sl.ext (by assumption) hS.1|assumption)) (by (first|exact Ad rfl|exact Ac _ _|(intro u hu;cases hu))) (by unfold maxLen;omega) (by omega) ?_;clear hS;intro ad99 c99 w hS;(first|simp only [Av] at hS|simp only [Aw] at hS|simp only [Ax] at hS|simp only [Ay] at hS|simp only [Az] at hS|skip))
        refine ⟨fun h=>absurd (by decide) h,?_⟩
        refine AF ?_
        go_step
        refine Y8 21 ?_
        refine Aa 22 ?_
        refine Y1 ?_;clear hS;intro w hS
        refine Y9 23 ?_
        refine Aa 24 ?_
        refine Y1 ?_;clear hS;intro w hS
        refine MF 25 ?_
        refine Aa 26 ?_
        refine Y1 ?_;clear hS;intro w hS
        refine AE AA ?_ _
       rotate_right 1
       focus
        (refine AO (o:=⟨some 93,_,_,_,_,_⟩) hS _ _ 30 rfl 3 1 8 Bj _ _ _ _ rfl AJ _ rfl _ _ (by (first|exact hS.slBlk AJ (by rfl) (by decide)|exact hS.sl AJ|with_reducible assumption|exact Sl.ext (by with_reducible assumption) hS.1|exact Sl.nil _ _|exact Sl.ext (by assumption) hS.1|assumption)) (by (first|exact Ad rfl|exact Ac _ _|(intro u hu;cases hu))) (by unfold maxLen;omega) (by omega) ?_;clear hS;intro ad93 c93 w hS;(first|simp only [Av] at hS|simp only [Aw] at hS|simp only [Ax] at hS|simp only [Ay] at hS|simp only [Az] at hS|skip))
        refine ⟨fun _ _=>hS.sub AV,?_⟩
        refine AF ?_
        go_step
        refine Aa 19 ?_
        refine Y6 ?_;clear hS;intro g98 w hS
        refine Aa 20 ?_
        (refine AO (o:=⟨some 99,_,_,_,_,_⟩) hS _ _ 30 rfl 3 1 8 Bj _ _ _ _ rfl AJ _ rfl _ _ (by (first|exact hS.slBlk AJ (by rfl) (by decide)|exact hS.sl AJ|with_reducible assumption|exact Sl.ext (by with_reducible assumption) hS.1|exact Sl.nil _ _|exact Sl.ext (by assumption) hS.1|assumption)) (by (first|exact Ad rfl|exact Ac _ _|(intro u hu;cases hu))) (by unfold maxLen;omega) (by omega) ?_;clear hS;intro ad99 c99 w hS;(first|simp only [Av] at hS|simp only [Aw] at hS|simp only [Ax] at hS|simp only [Ay] at hS|simp only [Az] at hS|skip))
        refine ⟨fun h=>absurd (by decide) h,?_⟩
        refine AF ?_
        go_step
        refine Y8 21 ?_
        refine Aa 22 ?_
        refine Y1 ?_;clear hS;intro w hS
        refine Y9 23 ?_
        refine Aa 24 ?_
        refine Y1 ?_;clear hS;intro w hS
        refine MF 25 ?_
        refine Aa 26 ?_
        refine Y1 ?_;clear hS;intro w hS
        refine AE AA ?_ _
    rotate_right 1
    focus
     refine Y6 ?_;clear hS;intro g86 w hS
     refine A1 [8,13,19] AA (by simp) (.cons Am AA ?_ (.cons Am AA ?_ (.cons Am AA ?_ (.nil))))
     rotate_left 2
     focus
      refine Y6 ?_;clear hS;intro g98 w hS
      refine A1 [8,13] AA (by simp) (.cons Am AA ?_ (.cons Am AA ?_ (.nil)))
      rotate_left 1
      focus
       refine Y6 ?_;clear hS;intro g92 w hS
       refine Aa 8 ?_
       (refine AO (o:=⟨some 87,_,_,_,_,_⟩) hS _ _ 30 rfl 3 1 8 Bj _ _ _ _ rfl AJ _ rfl _ _ (by (first|exact hS.slBlk AJ (by rfl) (by decide)|exact hS.sl AJ|with_reducible assumption|exact Sl.ext (by with_reducible assumption) hS.1|exact Sl.nil _ _|exact Sl.ext (by assumption) hS.1|assumption)) (by (first|exact Ad rfl|exact Ac _ _|(intro u hu;cases hu))) (by unfold maxLen;omega) (by omega) ?_;clear hS;intro ad87 c87 w hS;(first|simp only [Av] at hS|simp only [Aw] at hS|simp only [Ax] at hS|simp only [Ay] at hS|simp only [Az] at hS|skip))
       refine ⟨fun _ _=>hS.sub AV,?_⟩
       refine AF ?_
       go_step
       refine Aa 14 ?_
       (refine AO (o:=⟨some 93,_,_,_,_,_⟩) hS _ _ 30 rfl 3 1 8 Bj _ _ _ _ rfl AJ _ rfl _ _ (by (first|exact hS.slBlk AJ (by rfl) (by decide)|exact hS.sl AJ|with_reducible assumption|exact Sl.ext (by with_reducible assumption) hS.1|exact Sl.nil _ _|exact Sl.ext (by assumption) hS.1|assumption)) (by (first|exact Ad rfl|exact Ac _ _|(intro u hu;cases hu))) (by unfold maxLen;omega) (by omega) ?_;clear hS;intro ad93 c93 w hS;(first|simp only [Av] at hS|simp only [Aw] at hS|simp only [Ax] at hS|simp only [Ay] at hS|simp only [Az] at hS|skip))
       refine ⟨fun _ _=>hS.sub AV,?_⟩
       refine AF ?_
       go_step
       refine Aa 20 ?_
       (refine AO (o:=⟨some 99,_,_,_,_,_⟩) hS _ _ 30 rfl 3 1 8 Bj _ _ _ _ rfl AJ _ rfl _ _ (by (first|exact hS.slBlk AJ (by rfl) (by decide)|exact hS.sl AJ|with_reducible assumption|exact Sl.ext (by with_reducible assumption) hS.1|exact Sl.nil _ _|exact Sl.ext (by assumption) hS.1|assumption)) (by (first|exact Ad rfl|exact Ac _ _|(intro u hu;cases hu))) (by unfold maxLen;omega) (by omega) ?_;clear hS;intro ad99 c99 w hS;(first|simp only [Av] at hS|simp only [Aw] at hS|simp only [Ax] at hS|simp only [Ay] at hS|simp only [Az] at hS|skip))
       refine ⟨fun h=>absurd (by decide) h,?_⟩
       refine AF ?_
       go_step
       refine Y8 21 ?_
       refine Aa 22 ?_
       refine Y1 ?_;clear hS;intro w hS
       refine Y9 23 ?_
       refine Aa 24 ?_
       refine Y1 ?_;clear hS;intro w hS
       refine MF 25 ?_
       refine Aa 26 ?_
       refine Y1 ?_;clear hS;intro w hS
       refine AE AA ?_ _
      rotate_right 1
      focus
       (refine AO (o:=⟨some 87,_,_,_,_,_⟩) hS _ _ 30 rfl 3 1 8 Bj _ _ _ _ rfl AJ _ rfl _ _ (by (first|exact hS.slBlk AJ (by rfl) (by decide)|exact hS.sl AJ|with_reducible assumption|exact Sl.ext (by with_reducible assumption) hS.1|exact Sl.nil _ _|exact Sl.ext (by assumption) hS.1|assumption)) (by (first|exact Ad rfl|exact Ac _ _|(intro u hu;cases hu))) (by unfold maxLen;omega) (by omega) ?_;clear hS;intro ad87 c87 w hS;(first|simp only [Av] at hS|simp only [Aw] at hS|simp only [Ax] at hS|simp only [Ay] at hS|simp only [Az] at hS|skip))
       refine ⟨fun _ _=>hS.sub AV,?_⟩
       refine AF ?_
       go_step
       refine Aa 13 ?_
       refine Y6 ?_;clear hS;intro g92 w hS
       refine Aa 14 ?_
       (refine AO (o:=⟨some 93,_,_,_,_,_⟩) hS _ _ 30 rfl 3 1 8 Bj _ _ _ _ rfl AJ _ rfl _ _ (by (first|exact hS.slBlk AJ (by rfl) (by decide)|exact hS.sl AJ|with_reducible assumption|exact Sl.ext (by with_reducible assumption) hS.1|exact Sl.nil _ _|exact Sl.ext (by assumption) hS.1|assumption)) (by (first|exact Ad rfl|exact Ac _ _|(intro u hu;cases hu))) (by unfold maxLen;omega) (by omega) ?_;clear hS;intro ad93 c93 w hS;(first|simp only [Av] at hS|simp only [Aw] at hS|simp only [Ax] at hS|simp only [Ay] at hS|simp only [Az] at hS|skip))
       refine ⟨fun _ _=>hS.sub AV,?_⟩
       refine AF ?_
       go_step
       refine Aa 20 ?_
       (refine AO (o:=⟨some 99,_,_,_,_,_⟩) hS _ _ 30 rfl 3 1 8 Bj _ _ _ _ rfl AJ _ rfl _ _ (by (first|exact hS.slBlk AJ (by rfl) (by decide)|exact hS.sl AJ|with_reducible assumption|exact Sl.ext (by with_reducible assumption) hS.1|exact Sl.nil _ _|exact Sl.ext (by assumption) hS.1|assumption)) (by (first|exact Ad rfl|exact Ac _ _|(intro u hu;cases hu))) (by unfold maxLen;omega) (by omega) ?_;clear hS;intro ad99 c99 w hS;(first|simp only [Av] at hS|simp only [Aw] at hS|simp only [Ax] at hS|simp only [Ay] at hS|simp only [Az] at hS|skip))
       refine ⟨fun h=>absurd (by decide) h,?_⟩
       refine AF ?_
       go_step
       refine Y8 21 ?_
       refine Aa 22 ?_
       refine Y1 ?_;clear hS;intro w hS
       refine Y9 23 ?_
       refine Aa 24 ?_
       refine Y1 ?_;clear hS;intro w hS
       refine MF 25 ?_
       refine Aa 26 ?_
       refine Y1 ?_;clear hS;intro w hS
       refine AE AA ?_ _
     rotate_right 1
     focus
      refine Y6 ?_;clear hS;intro g92 w hS
      refine A1 [8,19] AA (by simp) (.cons Am AA ?_ (.cons Am AA ?_ (.nil)))
      rotate_left 1
      focus
       refine Y6 ?_;clear hS;intro g98 w hS
       refine Aa 8 ?_
       (refine AO (o:=⟨some 87,_,_,_,_,_⟩) hS _ _ 30 rfl 3 1 8 Bj _ _ _ _ rfl AJ _ rfl _ _ (by (first|exact hS.slBlk AJ (by rfl) (by decide)|exact hS.sl AJ|with_reducible assumption|exact Sl.ext (by with_reducible assumption) hS.1|exact Sl.nil _ _|exact Sl.ext (by assumption) hS.1|assumption)) (by (first|exact Ad rfl|exact Ac _ _|(intro u hu;cases hu))) (by unfold maxLen;omega) (by omega) ?_;clear hS;intro ad87 c87 w hS;(first|simp only [Av] at hS|simp only [Aw] at hS|simp only [Ax] at hS|simp only [Ay] at hS|simp only [Az] at hS|skip))
       refine ⟨fun _ _=>hS.sub AV,?_⟩
       refine AF ?_
       go_step
       refine Aa 14 ?_
       (refine AO (o:=⟨some 93,_,_,_,_,_⟩) hS _ _ 30 rfl 3 1 8 Bj _ _ _ _ rfl AJ _ rfl _ _ (by (first|exact hS.slBlk AJ (by rfl) (by decide)|exact hS.sl AJ|with_reducible assumption|exact Sl.ext (by with_reducible assumption) hS.1|exact Sl.nil _ _|exact Sl.ext (by assumption) hS.1|assumption)) (by (first|exact Ad rfl|exact Ac _ _|(intro u hu;cases hu))) (by unfold maxLen;omega) (by omega) ?_;clear hS;intro ad93 c93 w hS;(first|simp only [Av] at hS|simp only [Aw] at hS|simp only [Ax] at hS|simp only [Ay] at hS|simp only [Az] at hS|skip))
       refine ⟨fun _ _=>hS.sub AV,?_⟩
       refine AF ?_
       go_step
       refine Aa 20 ?_
       (refine AO (o:=⟨some 99,_,_,_,_,_⟩) hS _ _ 30 rfl 3 1 8 Bj _ _ _ _ rfl AJ _ rfl _ _ (by (first|exact hS.slBlk AJ (by rfl) (by decide)|exact hS.sl AJ|with_reducible assumption|exact Sl.ext (by with_reducible assumption) hS.1|exact Sl.nil _ _|exact Sl.ext (by assumption) hS.1|assumption)) (by (first|exact Ad rfl|exact Ac _ _|(intro u hu;cases hu))) (by unfold maxLen;omega) (by omega) ?_;clear hS;intro ad99 c99 w hS;(first|simp only [Av] at hS|simp only [Aw] at hS|simp only [Ax] at hS|simp only [Ay] at hS|simp only [Az] at hS|skip))
       refine ⟨fun h=>absurd (by decide) h,?_⟩
       refine AF ?_
       go_step
       refine Y8 21 ?_
       refine Aa 22 ?_
       refine Y1 ?_;clear hS;intro w hS
       refine Y9 23 ?_
       refine Aa 24 ?_
       refine Y1 ?_;clear hS;intro w hS
       refine MF 25 ?_
       refine Aa 26 ?_
       refine Y1 ?_;clear hS;intro w hS
       refine AE AA ?_ _
      rotate_right 1
      focus
       (refine AO (o:=⟨some 87,_,_,_,_,_⟩) hS _ _ 30 rfl 3 1 8 Bj _ _ _ _ rfl AJ _ rfl _ _ (by (first|exact hS.slBlk AJ (by rfl) (by decide)|exact hS.sl AJ|with_reducible assumption|exact Sl.ext (by with_reducible assumption) hS.1|exact Sl.nil _ _|exact Sl.ext (by assumption) hS.1|assumption)) (by (first|exact Ad rfl|exact Ac _ _|(intro u hu;cases hu))) (by unfold maxLen;omega) (by omega) ?_;clear hS;intro ad87 c87 w hS;(first|simp only [Av] at hS|simp only [Aw] at hS|simp only [Ax] at hS|simp only [Ay] at hS|simp only [Az] at hS|skip))
       refine ⟨fun _ _=>hS.sub AV,?_⟩
       refine AF ?_
       go_step
       refine A1 [14,19] AA (by simp) (.cons Am AA ?_ (.cons Am AA ?_ (.nil)))
       rotate_left 1
       focus
        refine Y6 ?_;clear hS;intro g98 w hS
        refine Aa 14 ?_
        (refine AO (o:=⟨some 93,_,_,_,_,_⟩) hS _ _ 30 rfl 3 1 8 Bj _ _ _ _ rfl AJ _ rfl _ _ (by (first|exact hS.slBlk AJ (by rfl) (by decide)|exact hS.sl AJ|with_reducible assumption|exact Sl.ext (by with_reducible assumption) hS.1|exact Sl.nil _ _|exact Sl.ext (by assumption) hS.1|assumption)) (by (first|exact Ad rfl|exact Ac _ _|(intro u hu;cases hu))) (by unfold maxLen;omega) (by omega) ?_;clear hS;intro ad93 c93 w hS;(first|simp only [Av] at hS|simp only [Aw] at hS|simp only [Ax] at hS|simp only [Ay] at hS|simp only [Az] at hS|skip))
        refine ⟨fun _ _=>hS.sub AV,?_⟩
        refine AF ?_
        go_step
        refine Aa 20 ?_
        (refine AO (o:=⟨some 99,_,_,_,_,_⟩) hS _ _ 30 rfl 3 1 8 Bj _ _ _ _ rfl AJ _ rfl _ _ (by (first|exact hS.slBlk AJ (by rfl) (by decide)|exact hS.sl AJ|with_reducible assumption|exact Sl.ext (by with_reducible assumption) hS.1|exact Sl.nil _ _|exact Sl.ext (by assumption) hS.1|assumption)) (by (first|exact Ad rfl|exact Ac _ _|(intro u hu;cases hu))) (by unfold maxLen;omega) (by omega) ?_;clear hS;intro ad99 c99 w hS;(first|simp only [Av] at hS|simp only [Aw] at hS|simp only [Ax] at hS|simp only [Ay] at hS|simp only [Az] at hS|skip))
        refine ⟨fun h=>absurd (by decide) h,?_⟩
        refine AF ?_
        go_step
        refine Y8 21 ?_
        refine Aa 22 ?_
        refine Y1 ?_;clear hS;intro w hS
        refine Y9 23 ?_
        refine Aa 24 ?_
        refine Y1 ?_;clear hS;intro w hS
        refine MF 25 ?_
        refine Aa 26 ?_
        refine Y1 ?_;clear hS;intro w hS
        refine AE AA ?_ _
       rotate_right 1
       focus
        (refine AO (o:=⟨some 93,_,_,_,_,_⟩) hS _ _ 30 rfl 3 1 8 Bj _ _ _ _ rfl AJ _ rfl _ _ (by (first|exact hS.slBlk AJ (by rfl) (by decide)|exact hS.sl AJ|with_reducible assumption|exact Sl.ext (by with_reducible assumption) hS.1|exact Sl.nil _ _|exact Sl.ext (by assumption) hS.1|assumption)) (by (first|exact Ad rfl|exact Ac _ _|(intro u hu;cases hu))) (by unfold maxLen;omega) (by omega) ?_;clear hS;intro ad93 c93 w hS;(first|simp only [Av] at hS|simp only [Aw] at hS|simp only [Ax] at hS|simp only [Ay] at hS|simp only [Az] at hS|skip))
        refine ⟨fun _ _=>hS.sub AV,?_⟩
        refine AF ?_
        go_step
        refine Aa 19 ?_
        refine Y6 ?_;clear hS;intro g98 w hS
        refine Aa 20 ?_
        (refine AO (o:=⟨some 99,_,_,_,_,_⟩) hS _ _ 30 rfl 3 1 8 Bj _ _ _ _ rfl AJ _ rfl _ _ (by (first|exact hS.slBlk AJ (by rfl) (by decide)|exact hS.sl AJ|with_reducible assumption|exact Sl.ext (by with_reducible assumption) hS.1|exact Sl.nil _ _|exact Sl.ext (by assumption) hS.1|assumption)) (by (first|exact Ad rfl|exact Ac _ _|(intro u hu;cases hu))) (by unfold maxLen;omega) (by omega) ?_;clear hS;intro ad99 c99 w hS;(first|simp only [Av] at hS|simp only [Aw] at hS|simp only [Ax] at hS|simp only [Ay] at hS|simp only [Az] at hS|skip))
        refine ⟨fun h=>absurd (by decide) h,?_⟩
        refine AF ?_
        go_step
        refine Y8 21 ?_
        refine Aa 22 ?_
        refine Y1 ?_;clear hS;intro w hS
        refine Y9 23 ?_
        refine Aa 24 ?_
        refine Y1 ?_;clear hS;intro w hS
        refine MF 25 ?_
        refine Aa 26 ?_
        refine Y1 ?_;clear hS;intro w hS
        refine AE AA ?_ _
     rotate_right 1
     focus
      (refine AO (o:=⟨some 87,_,_,_,_,_⟩) hS _ _ 30 rfl 3 1 8 Bj _ _ _ _ rfl AJ _ rfl _ _ (by (first|exact hS.slBlk AJ (by rfl) (by decide)|exact hS.sl AJ|with_reducible assumption|exact Sl.ext (by with_reducible assumption) hS.1|exact Sl.nil _ _|exact Sl.ext (by assumption) hS.1|assumption)) (by (first|exact Ad rfl|exact Ac _ _|(intro u hu;cases hu))) (by unfold maxLen;omega) (by omega) ?_;clear hS;intro ad87 c87 w hS;(first|simp only [Av] at hS|simp only [Aw] at hS|simp only [Ax] at hS|simp only [Ay] at hS|simp only [Az] at hS|skip))
      refine ⟨fun _ _=>hS.sub AV,?_⟩
      refine AF ?_
      go_step
      refine A1 [13,19] AA (by simp) (.cons Am AA ?_ (.cons Am AA ?_ (.nil)))
      rotate_left 1
      focus
       refine Y6 ?_;clear hS;intro g98 w hS
       refine Aa 13 ?_
       refine Y6 ?_;clear hS;intro g92 w hS
       refine Aa 14 ?_
       (refine AO (o:=⟨some 93,_,_,_,_,_⟩) hS _ _ 30 rfl 3 1 8 Bj _ _ _ _ rfl AJ _ rfl _ _ (by (first|exact hS.slBlk AJ (by rfl) (by decide)|exact hS.sl AJ|with_reducible assumption|exact Sl.ext (by with_reducible assumption) hS.1|exact Sl.nil _ _|exact Sl.ext (by assumption) hS.1|assumption)) (by (first|exact Ad rfl|exact Ac _ _|(intro u hu;cases hu))) (by unfold maxLen;omega) (by omega) ?_;clear hS;intro ad93 c93 w hS;(first|simp only [Av] at hS|simp only [Aw] at hS|simp only [Ax] at hS|simp only [Ay] at hS|simp only [Az] at hS|skip))
       refine ⟨fun _ _=>hS.sub AV,?_⟩
       refine AF ?_
       go_step
       refine Aa 20 ?_
       (refine AO (o:=⟨some 99,_,_,_,_,_⟩) hS _ _ 30 rfl 3 1 8 Bj _ _ _ _ rfl AJ _ rfl _ _ (by (first|exact hS.slBlk AJ (by rfl) (by decide)|exact hS.sl AJ|with_reducible assumption|exact Sl.ext (by with_reducible assumption) hS.1|exact Sl.nil _ _|exact Sl.ext (by assumption) hS.1|assumption)) (by (first|exact Ad rfl|exact Ac _ _|(intro u hu;cases hu))) (by unfold maxLen;omega) (by omega) ?_;clear hS;intro ad99 c99 w hS;(first|simp only [Av] at hS|simp only [Aw] at hS|simp only [Ax] at hS|simp only [Ay] at hS|simp only [Az] at hS|skip))
       refine ⟨fun h=>absurd (by decide) h,?_⟩
       refine AF ?_
       go_step
       refine Y8 21 ?_
       refine Aa 22 ?_
       refine Y1 ?_;clear hS;intro w hS
       refine Y9 23 ?_
       refine Aa 24 ?_
       refine Y1 ?_;clear hS;intro w hS
       refine MF 25 ?_
       refine Aa 26 ?_
       refine Y1 ?_;clear hS;intro w hS
       refine AE AA ?_ _
      rotate_right 1
      focus
       refine Y6 ?_;clear hS;intro g92 w hS
       refine A1 [14,19] AA (by simp) (.cons Am AA ?_ (.cons Am AA ?_ (.nil)))
       rotate_left 1
       focus
        refine Y6 ?_;clear hS;intro g98 w hS
        refine Aa 14 ?_
        (refine AO (o:=⟨some 93,_,_,_,_,_⟩) hS _ _ 30 rfl 3 1 8 Bj _ _ _ _ rfl AJ _ rfl _ _ (by (first|exact hS.slBlk AJ (by rfl) (by decide)|exact hS.sl AJ|with_reducible assumption|exact Sl.ext (by with_reducible assumption) hS.1|exact Sl.nil _ _|exact Sl.ext (by assumption) hS.1|assumption)) (by (first|exact Ad rfl|exact Ac _ _|(intro u hu;cases hu))) (by unfold maxLen;omega) (by omega) ?_;clear hS;intro ad93 c93 w hS;(first|simp only [Av] at hS|simp only [Aw] at hS|simp only [Ax] at hS|simp only [Ay] at hS|simp only [Az] at hS|skip))
        refine ⟨fun _ _=>hS.sub AV,?_⟩
        refine AF ?_
        go_step
        refine Aa 20 ?_
        (refine AO (o:=⟨some 99,_,_,_,_,_⟩) hS _ _ 30 rfl 3 1 8 Bj _ _ _ _ rfl AJ _ rfl _ _ (by (first|exact hS.slBlk AJ (by rfl) (by decide)|exact hS.sl AJ|with_reducible assumption|exact Sl.ext (by with_reducible assumption) hS.1|exact Sl.nil _ _|exact Sl.ext (by assumption) hS.1|assumption)) (by (first|exact Ad rfl|exact Ac _ _|(intro u hu;cases hu))) (by unfold maxLen;omega) (by omega) ?_;clear hS;intro ad99 c99 w hS;(first|simp only [Av] at hS|simp only [Aw] at hS|simp only [Ax] at hS|simp only [Ay] at hS|simp only [Az] at hS|skip))
        refine ⟨fun h=>absurd (by decide) h,?_⟩
        refine AF ?_
        go_step
        refine Y8 21 ?_
        refine Aa 22 ?_
        refine Y1 ?_;clear hS;intro w hS
        refine Y9 23 ?_
        refine Aa 24 ?_
        refine Y1 ?_;clear hS;intro w hS
        refine MF 25 ?_
        refine Aa 26 ?_
        refine Y1 ?_;clear hS;intro w hS
        refine AE AA ?_ _
       rotate_right 1
       focus
        (refine AO (o:=⟨some 93,_,_,_,_,_⟩) hS _ _ 30 rfl 3 1 8 Bj _ _ _ _ rfl AJ _ rfl _ _ (by (first|exact hS.slBlk AJ (by rfl) (by decide)|exact hS.sl AJ|with_reducible assumption|exact Sl.ext (by with_reducible assumption) hS.1|exact Sl.nil _ _|exact Sl.ext (by assumption) hS.1|assumption)) (by (first|exact Ad rfl|exact Ac _ _|(intro u hu;cases hu))) (by unfold maxLen;omega) (by omega) ?_;clear hS;intro ad93 c93 w hS;(first|simp only [Av] at hS|simp only [Aw] at hS|simp only [Ax] at hS|simp only [Ay] at hS|simp only [Az] at hS|skip))
        refine ⟨fun _ _=>hS.sub AV,?_⟩
        refine AF ?_
        go_step
        refine Aa 19 ?_
        refine Y6 ?_;clear hS;intro g98 w hS
        refine Aa 20 ?_
        (refine AO (o:=⟨some 99,_,_,_,_,_⟩) hS _ _ 30 rfl 3 1 8 Bj _ _ _ _ rfl AJ _ rfl _ _ (by (first|exact hS.slBlk AJ (by rfl) (by decide)|exact hS.sl AJ|with_reducible assumption|exact Sl.ext (by with_reducible assumption) hS.1|exact Sl.nil _ _|exact Sl.ext (by assumption) hS.1|assumption)) (by (first|exact Ad rfl|exact Ac _ _|(intro u hu;cases hu))) (by unfold maxLen;omega) (by omega) ?_;clear hS;intro ad99 c99 w hS;(first|simp only [Av] at hS|simp only [Aw] at hS|simp only [Ax] at hS|simp only [Ay] at hS|simp only [Az] at hS|skip))
        refine ⟨fun h=>absurd (by decide) h,?_⟩
        refine AF ?_
        go_step
        refine Y8 21 ?_
        refine Aa 22 ?_
        refine Y1 ?_;clear hS;intro w hS
        refine Y9 23 ?_
        refine Aa 24 ?_
        refine Y1 ?_;clear hS;intro w hS
        refine MF 25 ?_
        refine Aa 26 ?_
        refine Y1 ?_;clear hS;intro w hS
        refine AE AA ?_ _
   all_goals
    repeat' (first|(refine AG ?_;go_step)|fail)
    repeat' (first
     | refine X1 ?_|refine X7 ?_|refine AG ?_;go_step|fail)
   all_goals
    go_roundg (gk-1)
    case measure=>omega
    case rel=>exact ⟨i+1,_,_,_,_,_,_,by omega,by go_num,by rw [HT.out.1,HT.out.2.1,HT.out.2.2];exact hS.sub AV⟩
  obtain rfl:i=M:=by omega
  repeat' (first
   | refine X0 ?_|refine X2 ?_|refine AG ?_;go_step|fail)
  all_goals (try exact AW)
  obtain ⟨R,hR⟩:∃R:List Rw,[⟨p0,k0,Do i F0⟩,⟨p1,k1,Do i F1⟩,⟨p2,k2,Do i F2⟩]=R:=⟨_,rfl⟩
  have hA:∀k,k<3→∃pk kk lk,R[k]? =some ⟨pk,kk,lk⟩∧(R.map Rw.val)[k]? =some (.slice pk i kk)∧[Do i F0,Do i F1,Do i F2][k]? =some lk∧lk.length=i:=fun k hk=>by
   subst hR
   obtain rfl|rfl|rfl:k=0∨k=1∨k=2:=by omega
   ·exact ⟨p0,k0,Do i F0,rfl,by simp [Rw.val,Bt],rfl,Bt _ _⟩
   ·exact ⟨p1,k1,Do i F1,rfl,by simp [Rw.val,Bt],rfl,Bt _ _⟩
   exact ⟨p2,k2,Do i F2,rfl,by simp [Rw.val,Bt],rfl,Bt _ _⟩
  have hV:R.map Rw.val=[.slice p0 i k0, .slice p1 i k1, .slice p2 i k2]:=by subst hR;simp [Rw.val,Bt]
  have hZ:R.map Rw.res=[own 3 1 p0 i k0 ((Do i F0).map (Value.int .i64)),own 3 1 p1 i k1 ((Do i F1).map (Value.int .i64)),own 3 1 p2 i k2 ((Do i F2).map (Value.int .i64))]:=by subst hR;simp [Rw.res,Bt]
  have hS9:St W wr (star (R.map Rw.res)::[blk g2 [.int .i64 m, .int .i64 h, .slice (some ⟨pb,po,none⟩) 3 c],arr g3 64 q,own 26 64 ao n co (B.map (Value.int .i64)),blk g41 (R.map Rw.val)]):=by
   rw [hV,hZ]
   exact St.close () (by dsimp only [List.cons_append,List.nil_append];exact hS.sub AV)
  clear hS
  have hS:=hS9
  have hVl:(R.map Rw.val).length=3:=by rw [hV];rfl
  obtain ⟨XV,hVe⟩:∃XV,R.map Rw.val=XV:=⟨_,rfl⟩
  rw [hVe] at hS hA hVl
  have HA:=AD hA
  clear hR hV hZ hA hVe hS9
  obtain ⟨K,hK⟩:∃K,Aq m h=K:=⟨_,rfl⟩
  have hnK:3*K=n:=by rw [←hK];exact HH.out.2.1
  have hKm:K≤64:=by have:=(Ei HH.out.2.2).2.1;omega
  have HK:=AD hK
  clear hK
  repeat' (first
   | refine X1 ?_|refine TU ?_|refine AG ?_;go_step|fail)
  replace hS:=hS.nilk 26 64 .i64
  go_loopg [13,106] 3 (fun gk av kv w=>∃(k N2:Nat) (ab:Option Addr) (cb:Nat),gk+k=3∧N2=k*K∧av= .slice ab N2 cb∧kv= .int .i64 k∧St W w [star (R.map Rw.res),blk g2 [.int .i64 m, .int .i64 h, .slice (some ⟨pb,po,none⟩) 3 c],arr g3 64 q,own 26 64 ao n co (B.map (Value.int .i64)),blk g41 XV,own 26 64 ab N2 cb ((IC m h q ([Do i F0,Do i F1,Do i F2].take k)).map (Value.int .i64))])
  case atStart=>exact ⟨0,0,none,0,rfl,by omega,rfl,rfl,by rw [show IC m h q ([Do i F0,Do i F1,Do i F2].take 0)=[] by rw [List.take_zero,IC]];exact hS.sub AV⟩
  case round=>
   clear hS
   obtain ⟨k,N2,ab,cb,hk,hN2,rfl,rfl,hS⟩:=hrel
   by_cases hlt3:k<3
   ·obtain ⟨pk,kk,lk,hr,hv,hl,hll⟩:=HA.out k hlt3
    have hfz:=HFR.out k lk hl
    have hst:=Ui (m:=m) (h:=h) (q:=q) hl
    obtain ⟨Y,hY⟩:∃Y,LC m h q [lk]=Y:=⟨_,rfl⟩
    rw [hY] at hst
    have HB2:Hid (∀w (a:Option Addr),BT w a 1 [⟨pk,kk,lk⟩]→Calls Tryz.prog 19 #[.agg #[.int .i64 m, .int .i64 h, .slice a 1 1], .agg (iv q)] w fun e w'=>∃(ao:Option Addr) (co:Nat),e= .returned (.tuple #[.slice ao K co, .int .i64 0])∧St w w' [own 26 64 ao K co (Y.map (Value.int .i64))]):=fun w a hP=>by
     refine (Ez w m h HM.out a 1 [⟨pk,kk,lk⟩] (by simp) hP q hq).mono fun e w' hh=>?_
     have:=hh.2 hfz
     rw [show LC m h q (([⟨pk,kk,lk⟩]:List Rw).map (·.xs))=Y from hY,show ([⟨pk,kk,lk⟩]:List Rw).length*Aq m h=K by rw [HK.out];simp] at this
     exact this
    have HST:=AD hst
    have HR:=AD hr
    have HLL:=AD hll
    have hN3:N2+K=(k+1)*K:=by rw [hN2,Nat.add_mul];omega
    have hN4:N2≤192:=by have:=Nat.mul_le_mul_right K (show k≤3 by omega);omega
    have HN3:=AD hN3
    clear hfz hst hY hr hll hl hN2 hN3
    repeat' (first
     | (refine AS 109 ?_);refine Ag ?_;apply AY hS 30 _ rfl _ _ rfl (AH rfl) _;(case hp=>exact AJ);(case hc=>(simpa using hv));refine AB ?_;go_step|(refine A3 19 ?_);refine A4 AA Tryz.call19 (HB2.out _ (some ⟨g116,0,none⟩) (BT.one hS AJ AJ HR.out HLL.out)) ?_;rintro e w ⟨a2,c2,rfl,hS2⟩;replace hS:=hS.call1 hS2;clear hS2;refine Ae ?_;go_step|refine X0 ?_|refine X2 ?_|refine YJ 108 ?_|refine YC ?_|refine YD ?_|(refine AS 117 ?_);(refine As AA (V.build (vs:=[(0,_),(1,_),(2,_)]) rfl (Jq _ _ _ _ _)) ?_;go_step)|refine X6 ?_|refine X3 ?_|refine X9 ?_|refine Ys 116 ?_;clear hS;intro g116 w hS|refine IK ?_|refine WD 126 ?_;clear hS;intro ad126 c126 w hS|refine AG ?_;go_step|fail)
    all_goals (try exact AW)
    repeat' (first
     | refine X1 ?_|refine X7 ?_|refine AG ?_;go_step|fail)
    go_roundg (gk-1)
    case measure=>omega
    case rel=>exact ⟨k+1,_,_,_,by omega,HN3.out,rfl,by go_num,by rw [HST.out];exact hS.sub AV⟩
   obtain rfl:k=3:=by omega
   obtain rfl:N2=n:=by omega
   have hpe:=HPL.out
   rw [show [Do i F0,Do i F1,Do i F2].take 3=[Do i F0,Do i F1,Do i F2] from rfl,hpe] at hS
   clear hpe
   repeat' (first
    | refine X1 ?_|refine X2 ?_|refine AG ?_;go_step|fail)
   all_goals (try exact AW)
   repeat' (first
    | (refine A3 22 ?_);refine A4 AA Tryz.call22 (SC _ ao ab _ co cb B (hS.sl AJ) (hS.sl AJ) (by omega)) (Gb hS ?_);clear hS;intro w hS;go_step|refine X8 ?_|refine AG ?_;go_step|fail)
   go_ret
   exact ⟨rfl,hS.1⟩
def CQ:Array Value:=#[.agg #[.int .i64 0, .int .i64 0, .slice none 0 0], .agg #[.int .i64 0, .int .i64 0, .int .i64 0, .int .i64 0, .int .i64 0, .int .i64 0, .int .i64 0, .int .i64 0, .int .i64 0, .int .i64 0, .int .i64 0, .int .i64 0, .int .i64 0, .int .i64 0, .int .i64 0, .int .i64 0, .int .i64 0, .int .i64 0, .int .i64 0, .int .i64 0, .int .i64 0, .int .i64 0, .int .i64 0, .int .i64 0, .int .i64 0, .int .i64 0, .int .i64 0, .int .i64 0, .int .i64 0, .int .i64 0, .int .i64 0, .int .i64 0, .int .i64 0, .int .i64 0, .int .i64 0, .int .i64 0, .int .i64 0, .int .i64 0, .int .i64 0, .int .i64 0, .int .i64 0, .int .i64 0, .int .i64 0, .int .i64 0, .int .i64 0, .int .i64 0, .int .i64 0, .int .i64 0, .int .i64 0, .int .i64 0, .int .i64 0, .int .i64 0, .int .i64 0, .int .i64 0, .int .i64 0, .int .i64 0, .int .i64 0, .int .i64 0, .int .i64 0, .int .i64 0, .int .i64 0, .int .i64 0, .int .i64 0, .int .i64 0]]
theorem Jf:ownKnob Tryz.prog.godebug=none:=by kernel_rfl
theorem D0:laidOutB Tryz.prog=true:=by kernel_rfl
theorem Je(os:Os)(args:Array Value):laidMetH Tryz.prog Rows.frameThreeRow.laid ((World.laidAll Tryz.prog os Rows.frameThreeRow.laid).forCall (fun _ _=>0) ⟨#[],args,[]⟩).memory:=by
 rw [MakeChecks.laidMetH_plain _ _ _ AA];exact laidMet_laidAll _ AA AA
theorem IE(os:Os){H:Type}(enc:TypeId×Value→H):∃places,DataW.whole enc Tryz.prog ((World.laidAll Tryz.prog os Rows.frameThreeRow.laid).forCall (fun _ _=>0) ⟨#[],CQ,[]⟩).memory Tryz.f8.params.toList Rows.frameThreeSpec.vars false (CQ:Array Value).toList 8=some ([.agg [.lit (.int .i64 0), .lit (.int .i64 0), .nil], .agg [.lit (.int .i64 0), .lit (.int .i64 0), .lit (.int .i64 0), .lit (.int .i64 0), .lit (.int .i64 0), .lit (.int .i64 0), .lit (.int .i64 0), .lit (.int .i64 0), .lit (.int .i64 0), .lit (.int .i64 0), .lit (.int .i64 0), .lit (.int .i64 0), .lit (.int .i64 0), .lit (.int .i64 0), .lit (.int .i64 0), .lit (.int .i64 0), .lit (.int .i64 0), .lit (.int .i64 0), .lit (.int .i64 0), .lit (.int .i64 0), .lit (.int .i64 0), .lit (.int .i64 0), .lit (.int .i64 0), .lit (.int .i64 0), .lit (.int .i64 0), .lit (.int .i64 0), .lit (.int .i64 0), .lit (.int .i64 0), .lit (.int .i64 0), .lit (.int .i64 0), .lit (.int .i64 0), .lit (.int .i64 0), .lit (.int .i64 0), .lit (.int .i64 0), .lit (.int .i64 0), .lit (.int .i64 0), .lit (.int .i64 0), .lit (.int .i64 0), .lit (.int .i64 0), .lit (.int .i64 0), .lit (.int .i64 0), .lit (.int .i64 0), .lit (.int .i64 0), .lit (.int .i64 0), .lit (.int .i64 0), .lit (.int .i64 0), .lit (.int .i64 0), .lit (.int .i64 0), .lit (.int .i64 0), .lit (.int .i64 0), .lit (.int .i64 0), .lit (.int .i64 0), .lit (.int .i64 0), .lit (.int .i64 0), .lit (.int .i64 0), .lit (.int .i64 0), .lit (.int .i64 0), .lit (.int .i64 0), .lit (.int .i64 0), .lit (.int .i64 0), .lit (.int .i64 0), .lit (.int .i64 0), .lit (.int .i64 0), .lit (.int .i64 0)]],[],places):=
 ⟨[],by kernel_rfl⟩
theorem Gw(os:Os)(started:os.Started)(H:Type)(enc:TypeId×Value→H)(F:Stop.Interp):
 ReturnsInHanded {} Tryz.checked os 8 .any ((OpenSpec.ofChange Rows.frameThreeSpec).preRow enc Tryz.prog Tryz.f8 Rows.frameThreeRow.domain false Rows.frameThreeRow.laid) (((OpenSpec.ofChange Rows.frameThreeSpec).at F).post enc Tryz.prog Tryz.f8 false true false false):=by
 obtain ⟨places,hx⟩:=IE os enc
 have hok:Input.okWideB Tryz.prog ((World.laidAll Tryz.prog os Rows.frameThreeRow.laid).forCall (fun _ _=>0) ⟨#[],CQ,[]⟩) 8 ⟨#[],CQ,[]⟩=true:=by kernel_rfl
 refine returnsInHanded_of_row (C:=Tryz.checked) (s:=OpenSpec.ofChange Rows.frameThreeSpec) Jf started AA Tryz.func8
  ⟨(World.laidAll Tryz.prog os Rows.frameThreeRow.laid),fun _ _=>0,⟨#[],CQ,[]⟩,World.laidAll_os _ _ _,World.shaped_of_ZipB AA AA,(Input.okWide_of_okWideB (base:=0) hok).1,(Input.okWide_of_okWideB hok).2,
   OpenSpec.preRow_of_cond 8 hx AA (fun k hk=>by cases hk) AA (Je os _),by
   simp only [Assume.holds]
   exact ⟨by simp,by simp,by simp,by simp,by simp⟩⟩ ?_
 intro W base args ds gs before hval0 hW _ hk _ hL hsh _
 have hval:∀(j:Nat) t v,Tryz.f8.params[j]? =some t→args[j]? =some v→Value.okWide Tryz.prog W .any base t v:=hval0
 have hW':=hW
 obtain ⟨p,q,hA0,hV,rfl,hfz,hnd⟩:=hW
 have hA:DataW.TrodAll enc Tryz.prog W 0 (fun _=>true) true Tryz.f8.params.toList args.toList ds p:=hA0
 rw [Tryz.params8] at hA hval
 obtain ⟨v0,vs0,d0,ds0,p0,q0,hargs,rfl,rfl,h0,r0⟩:=trodAll_cons hA
 obtain ⟨v1,vs1,d1,ds1,p1,q1,rfl,rfl,rfl,h1,r1⟩:=trodAll_cons r0
 obtain ⟨rfl,rfl,rfl⟩:=trodAll_nil r1
 obtain rfl:args=#[v0,v1]:=by cases args;simp_all
 obtain ⟨rfl,rfl⟩:=trodVars_none hV
 have lt0:∀x∈p0,x.block<W.heap.size:=by obtain ⟨m,hm⟩:=h0;exact DataW.trod_lt m _ _ _ hm
 have lt1:∀x∈p1,x.block<W.heap.size:=by obtain ⟨m,hm⟩:=h1;exact DataW.trod_lt m _ _ _ hm
 refine (JD W (hval 0 24 v0 rfl rfl) h0 lt0 (hval 1 26 v1 rfl rfl) h1 lt1 hsh).mono fun e W' ⟨he,bel⟩=>?_
 subst he
 exact ⟨_,rfl,_,_,_,[],_,[],hW',trodAll_mk1 (shut_bool Tryz.underlying4 _),(trodAll_cons_mk (Below.trod D0 AA (of_decide_eq_true AA) h0 bel lt0) (trodAll_cons_mk (Below.trod D0 AA (of_decide_eq_true AA) h1 bel lt1) trodAll_mk0)),rfl,bel.frame _,fun h=>by cases h⟩
end Go.Proofs.YtohacgmhmbijmaaGreatDoor
