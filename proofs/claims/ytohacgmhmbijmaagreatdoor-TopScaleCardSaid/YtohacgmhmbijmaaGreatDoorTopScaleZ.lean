/- The law TopScale: its walk, and the statement. -/
import Derived.Test.YtohacgmhmbijmaaGreatDoorBaseNZ2
import Derived.Test.YtohacgmhmbijmaaGreatDoorBaseNZ3
import Derived.Test.YtohacgmhmbijmaaGreatDoorBaseNZ4
import Derived.Test.YtohacgmhmbijmaaGreatDoorBaseNZ5
import Derived.Test.YtohacgmhmbijmaaGreatDoorBaseNZ18
import Derived.Test.YtohacgmhmbijmaaGreatDoorBaseNZ19
import Derived.Test.YtohacgmhmbijmaaGreatDoorRows
import Derived.Test.YtohacgmhmbijmaaGreatDoorCards
import Derived.Test.YtohacgmhmbijmaaGreatDoorTie
import Derived.Deep.DeepHandedRow
import Derived.Lay
import Derived.SevenTiedAt
namespace Go.Proofs.YtohacgmhmbijmaaGreatDoor
attribute [local irreducible] Region.wanted
open Go.ChangeShapes Go.WideShapes Go.ChangeAt Go.RowKit
set_option linter.unusedVariables false
set_option maxRecDepth 100000
set_option maxHeartbeats 8000000
theorem Gs.weak{w0:World}{E:Int}{B:List Int}{n:Nat}{e:Ending}{w:World}(h:Gs w0 E B n e w):∃(ao:Option Addr) (no co:Nat),e= .returned (.tuple #[.slice ao no co, .int .i64 E])∧Ah w0 w:=by
 by_cases h0:E=0
 ·obtain ⟨ao,co,h1,h2⟩:=h.2 h0
  exact ⟨ao,n,co,by rw [h0];exact h1,h2.1⟩
 obtain ⟨h1,h2⟩:=h.1 h0
 exact ⟨none,0,0,h1,h2⟩
theorem de{l:List Int}{j:Nat}(h:j<l.length):(l.map (Value.int .i64))[j]? =some (.int .i64 (AF l j)):=by
 unfold AF List.getD
 rw [List.getElem?_map,List.getElem?_eq_getElem h]
 rfl
theorem Nr{H:Type}{enc:TypeId×Value→H}{d0 d1 d2:DataW H}{p0 p1 p2:List MemPlace}{v0 v1 v2:Value}{base:Nat}(W:World)
 (o0:Value.okWide Tryz.prog W .any base 24 v0) (h0:DataW.Trod enc Tryz.prog W 0 (fun _=>true) true 24 v0 d0 p0) (lt0:∀x∈p0,x.block<W.heap.size)
 (o1:Value.okWide Tryz.prog W .any base 26 v1) (h1:DataW.Trod enc Tryz.prog W 0 (fun _=>true) true 26 v1 d1 p1) (lt1:∀x∈p1,x.block<W.heap.size)
 (o2:Value.okWide Tryz.prog W .any base 3 v2) (h2:DataW.Trod enc Tryz.prog W 0 (fun _=>true) true 3 v2 d2 p2) (lt2:∀x∈p2,x.block<W.heap.size)
 (hsh:W.ShapedOpen Tryz.prog):
 Calls Tryz.prog 13 #[v0,v1,v2] W fun e w'=>e= .returned (.bool true)∧Ah W w':=by
 obtain ⟨m,h,a,c,R,rfl,hm,hh,hRc,hcm,hPT⟩:=iU o0 h0
 obtain ⟨q,hq,rfl,_⟩:=JT o1
 obtain ⟨z1,rfl,_,_⟩:=Dw Tryz.underlying3 o2 h2
 have hml:∃m,W.cell? ⟨0,0,none⟩=some (.int .i64 m):=Tryz.laysM185.s1_3 W hsh
 clear o0 h0 lt0 o1 h1 lt1 o2 h2 lt2 hsh
 have hS:=St.start W
 have HML:=AD hml
 have hRm:R.length≤9223372036854775807:=Nat.le_trans hRc hcm
 obtain ⟨z,hz⟩:∃z,z1%901=z:=⟨_,rfl⟩
 obtain ⟨pc,hpc⟩:∃p,z+100=p:=⟨_,rfl⟩
 have hp100:100≤pc:=by omega
 have hz0:0≤z∧z≤900:=by omega
 have HZ:=AD hz
 have hB1:=fun (w:World)(hx:Ah W w)=>EF w m h hm a c R hRm (hPT.ext hx) q hq
 have hB2:=fun (w:World)(hx:Ah W w)=>EF w m h hm a c R hRm (hPT.ext hx) (Jc q pc) (GZ q pc hq)
 have hSc:=fun (w:World)=>W6 w q pc hq
 obtain ⟨E0,hE0⟩:∃E,bZ q pc=E:=⟨_,rfl⟩
 obtain ⟨E1,hE1⟩:∃E,Gg m h q (R.map (·.xs))=E:=⟨_,rfl⟩
 obtain ⟨E2,hE2⟩:∃E,Gg m h (Jc q pc) (R.map (·.xs))=E:=⟨_,rfl⟩
 have hlaw:E0=0→E2=0→∀x,RA (AF (FX m h (Jc q pc) (R.map (·.xs))) x)≤RA (AF (FX m h q (R.map (·.xs))) x):=fun e0 e2 x=>by
  have h9:Gg m h (Jc q pc) (R.map (·.xs))=0:=hE2.trans e2
  exact Sz hq hp100 (hE0.trans e0) (JI h9).2 _ x
 have hA:=fun x=>Yy (m:=m) (h:=h) hq (R.map (·.xs)) x
 have hBb:=fun x=>Yy (m:=m) (h:=h) (GZ q pc hq) (R.map (·.xs)) x
 have hAl:=FY m h q hq (R.map (·.xs))
 have hBl:=FY m h (Jc q pc) (GZ q pc hq) (R.map (·.xs))
 rw [List.length_map] at hAl hBl
 have hsl:Ae (Jc q pc) 64:=GZ q pc hq
 have hqL:Ae q 64:=hq
 obtain ⟨s,hs⟩:∃s,Jc q pc=s:=⟨_,rfl⟩
 rw [hs] at hB2 hSc hE2 hlaw hBb hBl hsl
 rw [hE0] at hSc
 rw [hE1] at hB1
 rw [hE2] at hB2
 obtain ⟨A,hAe⟩:∃A,FX m h q (R.map (·.xs))=A:=⟨_,rfl⟩
 obtain ⟨B,hBe⟩:∃B,FX m h s (R.map (·.xs))=B:=⟨_,rfl⟩
 obtain ⟨n,hn⟩:∃n,R.length*Aa m h=n:=⟨_,rfl⟩
 rw [hAe,hn] at hB1
 rw [hBe,hn] at hB2
 rw [hAe] at hA hAl
 rw [hBe] at hBb hBl
 rw [hAe,hBe] at hlaw
 rw [hn] at hAl hBl
 obtain ⟨np,hnp⟩:∃np,R.length=np:=⟨_,rfl⟩
 rw [hnp] at hB1 hB2 hRc hRm
 rw [hnp]
 have HSC:=AD hSc
 by_cases hbad:E0≠0∨E1≠0∨E2≠0
 ·have HB1:=AD fun w hx=>(hB1 w hx).mono fun e w' hh=>hh.weak
  have HB2:=AD fun w hx=>(hB2 w hx).mono fun e w' hh=>hh.weak
  clear hB1 hB2 hlaw hA hBb hAl hBl hAe hBe hn hnp hs hE0 hE1 hE2 hSc hz hPT hml
  go_enter Tryz.func13,Tryz.ntmps13
  repeat' (first
   | (refine Am 35 ?_);refine An AA Tryz.call35 (ID _ (HML.out.imp fun m h=>hS.1.cell h)) (Fq hS ?_);clear hS;intro w hS;go_step|refine X8 ?_|refine T7 18 ?_|refine T0 3 ?_;clear hS;intro g3 w hS|refine L7 4 ?_;clear hS;intro g4 w hS|refine AG ?_;go_step|fail)
  all_goals (try exact AS)
  refine AP [4,9] (fun w=>St W w [arr g4 64 q]) AA ?_
  replace hS:=hS.drew
  focus
   refine jw 0 [4,5,6,7,9,10] ?_
   refine AY 1 ?_
   refine Ay [2,8] AA (by simp) (.cons Ai AA ?_ (.cons Ai AA ?_ (.nil)))
   rotate_left 1
   focus
    refine jJ ?_;clear hS;intro g7 w hS
    refine Ao 2 ?_
    refine AR (f:=28) rfl Tryz.call28 (Cu z1 901 _ (by omega) (by omega)) ?_;rintro e w' ⟨rfl,rfl⟩;rw [HZ.out];refine ⟨_,rfl,?_⟩
    refine ⟨fun _ _=>hS.sub AV,?_⟩
    refine AI ?_
    go_step
    (refine BA 3 (.int _ (pc)) Ai AA AA AA B5 (V.as (V.addI rfl rfl (by omega)) (by omega)) AA ?_)
    go_step
    refine Ao 4 ?_
    refine AR (f:=38) rfl Tryz.call38 (HSC.out _) ?_;rintro e w ⟨rfl,hE⟩;replace hS:=hS.ext hE;clear hE;refine ⟨_,rfl,?_⟩
    refine ⟨fun h=>absurd (by decide) h,?_⟩
    refine AI ?_
    go_step
    refine AY 5 ?_
    refine Y1 6 ?_
    refine Y1 7 ?_
    refine Ao 9 ?_
    refine jK ?_;clear hS;intro w hS
    refine AY 10 ?_
    refine AE AA ?_ _
   rotate_right 1
   focus
    refine AR (f:=28) rfl Tryz.call28 (Cu z1 901 _ (by omega) (by omega)) ?_;rintro e w' ⟨rfl,rfl⟩;rw [HZ.out];refine ⟨_,rfl,?_⟩
    refine ⟨fun _ _=>hS.sub AV,?_⟩
    refine AI ?_
    go_step
    (refine BA 3 (.int _ (pc)) Ai AA AA AA B5 (V.as (V.addI rfl rfl (by omega)) (by omega)) AA ?_)
    go_step
    refine Ay [4,8] AA (by simp) (.cons Ai AA ?_ (.cons Ai AA ?_ (.nil)))
    rotate_left 1
    focus
     refine jJ ?_;clear hS;intro g7 w hS
     refine Ao 4 ?_
     refine AR (f:=38) rfl Tryz.call38 (HSC.out _) ?_;rintro e w ⟨rfl,hE⟩;replace hS:=hS.ext hE;clear hE;refine ⟨_,rfl,?_⟩
     refine ⟨fun h=>absurd (by decide) h,?_⟩
     refine AI ?_
     go_step
     refine AY 5 ?_
     refine Y1 6 ?_
     refine Y1 7 ?_
     refine Ao 9 ?_
     refine jK ?_;clear hS;intro w hS
     refine AY 10 ?_
     refine AE AA ?_ _
    rotate_right 1
    focus
     refine AR (f:=38) rfl Tryz.call38 (HSC.out _) ?_;rintro e w ⟨rfl,hE⟩;replace hS:=hS.ext hE;clear hE;refine ⟨_,rfl,?_⟩
     refine ⟨fun h=>absurd (by decide) h,?_⟩
     refine AI ?_
     go_step
     refine AY 5 ?_
     refine Y1 6 ?_
     refine Y1 7 ?_
     refine Ao 8 ?_
     refine jJ ?_;clear hS;intro g7 w hS
     refine Ao 9 ?_
     refine jK ?_;clear hS;intro w hS
     refine AY 10 ?_
     refine AE AA ?_ _
  all_goals
   repeat' (first|(refine AG ?_;go_step)|fail)
   repeat' (first
    | (refine AQ 30 ?_);refine AL (f:=19) Tryz.call19 AA ?_;refine ⟨_,(HB1.out _ hS.1),?_⟩;rintro e w ⟨ao,no,co,rfl,hE⟩;replace hS:=hS.ext hE;clear hE;refine Ab ?_;go_step|(refine AQ 36 ?_);refine AL (f:=19) Tryz.call19 AA ?_;refine ⟨_,(HB2.out _ hS.1),?_⟩;rintro e w ⟨bo,mo,cb,rfl,hE⟩;replace hS:=hS.ext hE;clear hE;refine Ab ?_;go_step|go_skip|refine X0 ?_|refine Kl ?_|refine X9 40 ?_ ?_<;>intro hB<;>(try exact AS)<;>go_step|refine X9 43 ?_ ?_<;>intro hB<;>(try exact AS)<;>go_step|refine X3 31 ?_|refine X3 32 ?_|refine X3 37 ?_|refine X3 38 ?_|refine Gq 47 ?_|refine XZ ?_|refine Hp ?_|refine AG ?_;go_step|fail)
   all_goals (try exact AS)
   all_goals
    go_ret
    exact ⟨rfl,hS.1⟩
 obtain ⟨rfl,rfl,rfl⟩:E0=0∧E1=0∧E2=0:=by omega
 have HB1:=AD fun w hx=>(hB1 w hx).mono fun e w' hh=>hh.2 rfl
 have HB2:=AD fun w hx=>(hB2 w hx).mono fun e w' hh=>hh.2 rfl
 have HLW:=AD (hlaw rfl rfl)
 have HAI:=AD hA
 have HBI:=AD hBb
 have HAL:=AD hAl
 have HBL:=AD hBl
 clear hB1 hB2 hlaw hA hBb hAl hBl hAe hBe hn hnp hs hE0 hE1 hE2 hSc hz hPT hml hbad
 go_enter Tryz.func13,Tryz.ntmps13
 repeat' (first
  | (refine Am 35 ?_);refine An AA Tryz.call35 (ID _ (HML.out.imp fun m h=>hS.1.cell h)) (Fq hS ?_);clear hS;intro w hS;go_step|refine X8 ?_|refine T7 18 ?_|refine T0 3 ?_;clear hS;intro g3 w hS|refine L7 4 ?_;clear hS;intro g4 w hS|refine AG ?_;go_step|fail)
 all_goals (try exact AS)
 refine AP [4,9] (fun w=>St W w [arr g4 64 q]) AA ?_
 replace hS:=hS.drew
 focus
  refine jw 0 [4,5,6,7,9,10] ?_
  refine AY 1 ?_
  refine Ay [2,8] AA (by simp) (.cons Ai AA ?_ (.cons Ai AA ?_ (.nil)))
  rotate_left 1
  focus
   refine jJ ?_;clear hS;intro g7 w hS
   refine Ao 2 ?_
   refine AR (f:=28) rfl Tryz.call28 (Cu z1 901 _ (by omega) (by omega)) ?_;rintro e w' ⟨rfl,rfl⟩;rw [HZ.out];refine ⟨_,rfl,?_⟩
   refine ⟨fun _ _=>hS.sub AV,?_⟩
   refine AI ?_
   go_step
   (refine BA 3 (.int _ (pc)) Ai AA AA AA B5 (V.as (V.addI rfl rfl (by omega)) (by omega)) AA ?_)
   go_step
   refine Ao 4 ?_
   refine AR (f:=38) rfl Tryz.call38 (HSC.out _) ?_;rintro e w ⟨rfl,hE⟩;replace hS:=hS.ext hE;clear hE;refine ⟨_,rfl,?_⟩
   refine ⟨fun h=>absurd (by decide) h,?_⟩
   refine AI ?_
   go_step
   refine AY 5 ?_
   refine Y1 6 ?_
   refine Y1 7 ?_
   refine Ao 9 ?_
   refine jK ?_;clear hS;intro w hS
   refine AY 10 ?_
   refine AE AA ?_ _
  rotate_right 1
  focus
   refine AR (f:=28) rfl Tryz.call28 (Cu z1 901 _ (by omega) (by omega)) ?_;rintro e w' ⟨rfl,rfl⟩;rw [HZ.out];refine ⟨_,rfl,?_⟩
   refine ⟨fun _ _=>hS.sub AV,?_⟩
   refine AI ?_
   go_step
   (refine BA 3 (.int _ (pc)) Ai AA AA AA B5 (V.as (V.addI rfl rfl (by omega)) (by omega)) AA ?_)
   go_step
   refine Ay [4,8] AA (by simp) (.cons Ai AA ?_ (.cons Ai AA ?_ (.nil)))
   rotate_left 1
   focus
    refine jJ ?_;clear hS;intro g7 w hS
    refine Ao 4 ?_
    refine AR (f:=38) rfl Tryz.call38 (HSC.out _) ?_;rintro e w ⟨rfl,hE⟩;replace hS:=hS.ext hE;clear hE;refine ⟨_,rfl,?_⟩
    refine ⟨fun h=>absurd (by decide) h,?_⟩
    refine AI ?_
    go_step
    refine AY 5 ?_
    refine Y1 6 ?_
    refine Y1 7 ?_
    refine Ao 9 ?_
    refine jK ?_;clear hS;intro w hS
    refine AY 10 ?_
    refine AE AA ?_ _
   rotate_right 1
   focus
    refine AR (f:=38) rfl Tryz.call38 (HSC.out _) ?_;rintro e w ⟨rfl,hE⟩;replace hS:=hS.ext hE;clear hE;refine ⟨_,rfl,?_⟩
    refine ⟨fun h=>absurd (by decide) h,?_⟩
    refine AI ?_
    go_step
    refine AY 5 ?_
    refine Y1 6 ?_
    refine Y1 7 ?_
    refine Ao 8 ?_
    refine jJ ?_;clear hS;intro g7 w hS
    refine Ao 9 ?_
    refine jK ?_;clear hS;intro w hS
    refine AY 10 ?_
    refine AE AA ?_ _
 all_goals
  repeat' (first|(refine AG ?_;go_step)|fail)
  repeat' (first
   | (refine AQ 30 ?_);refine AL (f:=19) Tryz.call19 AA ?_;refine ⟨_,(HB1.out _ hS.1),?_⟩;rintro e w ⟨ao,co,rfl,hS2⟩;replace hS:=hS.call1 hS2;clear hS2;refine Ab ?_;go_step|(refine AQ 36 ?_);refine AL (f:=19) Tryz.call19 AA ?_;refine ⟨_,(HB2.out _ hS.1),?_⟩;rintro e w ⟨bo,cb,rfl,hS2⟩;replace hS:=hS.call1 hS2;clear hS2;refine Ab ?_;go_step|refine X0 ?_|refine Gj ?_|refine X9 40 ?_ ?_<;>intro hB<;>(try exact AS)<;>go_step|refine X9 43 ?_ ?_<;>intro hB<;>(try exact AS)<;>go_step|refine X3 31 ?_|refine X3 32 ?_|refine X3 37 ?_|refine X3 38 ?_|refine Gq 47 ?_|refine XZ ?_|refine Hp ?_|refine AG ?_;go_step|fail)
  all_goals (try exact AS)
  all_goals (try (have hF:False:=(hB rfl);cases hF))
  have hva:=hS.sl (a:=ao) AM
  have hvb:=hS.sl (a:=bo) AM
  have hn9:=U9 hva
  have hE9:=hS.1
  clear hS HB1 HB2 HSC
  obtain ⟨W1,hW1⟩:∃z,z=w:=⟨w,rfl⟩
  subst hW1
  have hS:=St.start W1
  repeat' (first
   | refine X1 ?_|refine YJ 50 ?_|refine AG ?_;go_step|fail)
  go_loopg [51] n (fun gk kv w=>∃k:Nat,gk+k=n∧kv= .int .i64 k∧St W1 w [])
  case atStart=>exact ⟨0,rfl,rfl,hS⟩
  case round=>
   clear hS
   obtain ⟨k,hk,rfl,hS⟩:=hrel
   by_cases hlt:k<n
   ·obtain ⟨bb,ob,rfl,hrb⟩:=YT hvb k hlt
    have hly:Ae (BY B 64 k) 64:=Br B 64 k n HBL.out hlt
    have hlx:Ae (BY A 64 k) 64:=Br A 64 k n HAL.out hlt
    obtain ⟨gk1,hgk1⟩:∃x,x=gk:=⟨_,rfl⟩
    subst hgk1
    repeat' (first
     | refine X0 ?_|refine X4 52 ?_|refine bR 56 ?_;intro b56 o56 hl56 hc56;go_step|refine Xx ?_|refine AG ?_;go_step|fail)
    all_goals (try exact AS)
    go_loopg [58] 64 (fun gk jv w=>∃j:Nat,gk+j=64∧jv= .int .i64 j∧St W1 w [])
    case atStart=>exact ⟨0,rfl,rfl,hS⟩
    case round=>
     clear hS
     obtain ⟨j,hj,rfl,hS⟩:=hrel
     by_cases hlj:j<64
     ·have l1:=HLW.out (k*64+j)
      have l2:=HAI.out (k*64+j)
      have l3:=HBI.out (k*64+j)
      rw [←Db _ _ _ _ hlj] at l2 l3
      rw [←Db _ _ _ _ hlj,←Db _ _ _ _ hlj] at l1
      unfold RA at l1
      have hcell:W1.cell? ⟨bb,ob+k*64+j,none⟩=some (.int .i64 (AF (BY B 64 k) j)):=hrb j _ (de (by rw [hly.out];exact hlj))
      repeat' (first
       | refine X0 ?_|refine X4 59 ?_|refine YB 61 ?_|refine gR 65 ?_|refine Vq 66 ?_|refine cS 70 ?_|refine cR 71 ?_|refine cS 74 ?_|refine cR 75 ?_|refine L9 76 ?_|refine Ns 77 ?_|refine SQ ?_|refine AG ?_;go_step|fail)
      all_goals (try exact AS)
      go_roundg (gk-1)
      case measure=>omega
      case rel=>exact ⟨j+1,by omega,by go_num,hS.sub AV⟩
     obtain rfl:64=j:=by omega
     repeat' (first
      | refine X4 59 ?_|refine AG ?_;go_step|fail)
     all_goals (try exact AS)
     repeat' (first
      | refine X1 ?_|refine Ns 78 ?_|refine AG ?_;go_step|fail)
     go_roundg (gk1-1)
     case measure=>omega
     case rel=>exact ⟨k+1,by omega,by go_num,hS.sub AV⟩
   obtain rfl:n=k:=by omega
   repeat' (first
    | refine X1 ?_|refine X4 52 ?_|refine AG ?_;go_step|fail)
   all_goals (try exact AS)
   repeat' (first
    | refine X0 ?_|refine YJ 80 ?_|refine YJ 82 ?_|refine LQ 83 ?_|refine AG ?_;go_step|fail)
   go_ret
   exact ⟨DF (decide_eq_true trivial),hE9.trans hS.1⟩
def DR:Array Value:=#[.agg #[.int .i64 0, .int .i64 0, .slice none 0 0], .agg #[.int .i64 0, .int .i64 0, .int .i64 0, .int .i64 0, .int .i64 0, .int .i64 0, .int .i64 0, .int .i64 0, .int .i64 0, .int .i64 0, .int .i64 0, .int .i64 0, .int .i64 0, .int .i64 0, .int .i64 0, .int .i64 0, .int .i64 0, .int .i64 0, .int .i64 0, .int .i64 0, .int .i64 0, .int .i64 0, .int .i64 0, .int .i64 0, .int .i64 0, .int .i64 0, .int .i64 0, .int .i64 0, .int .i64 0, .int .i64 0, .int .i64 0, .int .i64 0, .int .i64 0, .int .i64 0, .int .i64 0, .int .i64 0, .int .i64 0, .int .i64 0, .int .i64 0, .int .i64 0, .int .i64 0, .int .i64 0, .int .i64 0, .int .i64 0, .int .i64 0, .int .i64 0, .int .i64 0, .int .i64 0, .int .i64 0, .int .i64 0, .int .i64 0, .int .i64 0, .int .i64 0, .int .i64 0, .int .i64 0, .int .i64 0, .int .i64 0, .int .i64 0, .int .i64 0, .int .i64 0, .int .i64 0, .int .i64 0, .int .i64 0, .int .i64 0], .int .i64 0]
theorem O3:ownKnob Tryz.prog.godebug=none:=by kernel_rfl
theorem ED:laidOutB Tryz.prog=true:=by kernel_rfl
theorem O2(os:Os)(args:Array Value):laidMetH Tryz.prog Rows.topScaleRow.laid ((World.laidAll Tryz.prog os Rows.topScaleRow.laid).forCall (fun _ _=>0) ⟨#[],args,[]⟩).memory:=by
 rw [MakeChecks.laidMetH_plain _ _ _ AA];exact laidMet_laidAll _ AA AA
theorem L4(os:Os){H:Type}(enc:TypeId×Value→H):∃places,DataW.whole enc Tryz.prog ((World.laidAll Tryz.prog os Rows.topScaleRow.laid).forCall (fun _ _=>0) ⟨#[],DR,[]⟩).memory Tryz.f13.params.toList Rows.topScaleSpec.vars false (DR:Array Value).toList 8=some ([.agg [.lit (.int .i64 0), .lit (.int .i64 0), .nil], .agg [.lit (.int .i64 0), .lit (.int .i64 0), .lit (.int .i64 0), .lit (.int .i64 0), .lit (.int .i64 0), .lit (.int .i64 0), .lit (.int .i64 0), .lit (.int .i64 0), .lit (.int .i64 0), .lit (.int .i64 0), .lit (.int .i64 0), .lit (.int .i64 0), .lit (.int .i64 0), .lit (.int .i64 0), .lit (.int .i64 0), .lit (.int .i64 0), .lit (.int .i64 0), .lit (.int .i64 0), .lit (.int .i64 0), .lit (.int .i64 0), .lit (.int .i64 0), .lit (.int .i64 0), .lit (.int .i64 0), .lit (.int .i64 0), .lit (.int .i64 0), .lit (.int .i64 0), .lit (.int .i64 0), .lit (.int .i64 0), .lit (.int .i64 0), .lit (.int .i64 0), .lit (.int .i64 0), .lit (.int .i64 0), .lit (.int .i64 0), .lit (.int .i64 0), .lit (.int .i64 0), .lit (.int .i64 0), .lit (.int .i64 0), .lit (.int .i64 0), .lit (.int .i64 0), .lit (.int .i64 0), .lit (.int .i64 0), .lit (.int .i64 0), .lit (.int .i64 0), .lit (.int .i64 0), .lit (.int .i64 0), .lit (.int .i64 0), .lit (.int .i64 0), .lit (.int .i64 0), .lit (.int .i64 0), .lit (.int .i64 0), .lit (.int .i64 0), .lit (.int .i64 0), .lit (.int .i64 0), .lit (.int .i64 0), .lit (.int .i64 0), .lit (.int .i64 0), .lit (.int .i64 0), .lit (.int .i64 0), .lit (.int .i64 0), .lit (.int .i64 0), .lit (.int .i64 0), .lit (.int .i64 0), .lit (.int .i64 0), .lit (.int .i64 0)], .lit (.int .i64 0)],[],places):=
 ⟨[],by kernel_rfl⟩
theorem LG(os:Os)(started:os.Started)(H:Type)(enc:TypeId×Value→H)(F:Stop.Interp):
 ReturnsInHanded {} Tryz.checked os 13 .any ((OpenSpec.ofChange Rows.topScaleSpec).preRow enc Tryz.prog Tryz.f13 Rows.topScaleRow.domain false Rows.topScaleRow.laid) (((OpenSpec.ofChange Rows.topScaleSpec).at F).post enc Tryz.prog Tryz.f13 false true false false):=by
 obtain ⟨places,hx⟩:=L4 os enc
 have hok:Input.okWideB Tryz.prog ((World.laidAll Tryz.prog os Rows.topScaleRow.laid).forCall (fun _ _=>0) ⟨#[],DR,[]⟩) 13 ⟨#[],DR,[]⟩=true:=by kernel_rfl
 refine returnsInHanded_of_row (C:=Tryz.checked) (s:=OpenSpec.ofChange Rows.topScaleSpec) O3 started AA Tryz.func13
  ⟨(World.laidAll Tryz.prog os Rows.topScaleRow.laid),fun _ _=>0,⟨#[],DR,[]⟩,World.laidAll_os _ _ _,World.shaped_of_ZipB AA AA,(Input.okWide_of_okWideB (base:=0) hok).1,(Input.okWide_of_okWideB hok).2,
   OpenSpec.preRow_of_cond 8 hx AA (fun k hk=>by cases hk) AA (O2 os _),by
   simp only [Assume.holds]
   exact ⟨by simp,by simp,by simp,by simp,by simp⟩⟩ ?_
 intro W base args ds gs before hval0 hW _ hk _ hL hsh _
 have hval:∀(j:Nat) t v,Tryz.f13.params[j]? =some t→args[j]? =some v→Value.okWide Tryz.prog W .any base t v:=hval0
 have hW':=hW
 obtain ⟨p,q,hA0,hV,rfl,hfz,hnd⟩:=hW
 have hA:DataW.TrodAll enc Tryz.prog W 0 (fun _=>true) true Tryz.f13.params.toList args.toList ds p:=hA0
 rw [Tryz.params13] at hA hval
 obtain ⟨v0,vs0,d0,ds0,p0,q0,hargs,rfl,rfl,h0,r0⟩:=trodAll_cons hA
 obtain ⟨v1,vs1,d1,ds1,p1,q1,rfl,rfl,rfl,h1,r1⟩:=trodAll_cons r0
 obtain ⟨v2,vs2,d2,ds2,p2,q2,rfl,rfl,rfl,h2,r2⟩:=trodAll_cons r1
 obtain ⟨rfl,rfl,rfl⟩:=trodAll_nil r2
 obtain rfl:args=#[v0,v1,v2]:=by cases args;simp_all
 obtain ⟨rfl,rfl⟩:=trodVars_none hV
 have lt0:∀x∈p0,x.block<W.heap.size:=by obtain ⟨m,hm⟩:=h0;exact DataW.trod_lt m _ _ _ hm
 have lt1:∀x∈p1,x.block<W.heap.size:=by obtain ⟨m,hm⟩:=h1;exact DataW.trod_lt m _ _ _ hm
 have lt2:∀x∈p2,x.block<W.heap.size:=by obtain ⟨m,hm⟩:=h2;exact DataW.trod_lt m _ _ _ hm
 refine (Nr W (hval 0 24 v0 rfl rfl) h0 lt0 (hval 1 26 v1 rfl rfl) h1 lt1 (hval 2 3 v2 rfl rfl) h2 lt2 hsh).mono fun e W' ⟨he,bel⟩=>?_
 subst he
 exact ⟨_,rfl,_,_,_,[],_,[],hW',trodAll_mk1 (shut_bool Tryz.underlying4 _),(trodAll_cons_mk (Below.trod ED AA (of_decide_eq_true AA) h0 bel lt0) (trodAll_cons_mk (Below.trod ED AA (of_decide_eq_true AA) h1 bel lt1) (trodAll_cons_mk (Below.trod ED AA (of_decide_eq_true AA) h2 bel lt2) trodAll_mk0))),rfl,bel.frame _,fun h=>by cases h⟩
theorem Nq:Rows.TopScaleSaid:=
 OpenClaim.holds_of_cond 13 Tryz.f13 rfl rfl rfl rfl rfl rfl rfl ⟨rfl,rfl,rfl,rfl,rfl⟩ rfl rfl rfl rfl rfl AA Tryz.func13 AA
  (of_decide_eq_true AA) (by unfold Func.isWrapper;rw [if_neg (by decide+kernel)];exact ⟨rfl,rfl⟩)
  (fun os started H enc _ F=>by rw [OpenClaim.pre_eq_preRow];exact LG os started H enc F)
theorem J9(f:FuncId)(fn:Func)(hf:Tryz.pinned.checked.prog.funcNamed "mezzotint/mezzotinttop.TopScale" =some f)(hfn:Tryz.pinned.checked.prog.funcs[f]? =some fn):
 false=Tryz.pinned.checked.prog.looks []∧∀(j:Nat) t,fn.params[j]? =some t→Tryz.pinned.checked.prog.wantsStandIn t=false:=by
 obtain rfl:f=13:=Option.some.inj ((show Tryz.prog.funcNamed "mezzotint/mezzotinttop.TopScale" =some 13 by kernel_rfl).symm.trans hf) |>.symm
 obtain rfl:fn=Tryz.f13:=(Option.some.inj (Tryz.func13.symm.trans hfn)).symm
 refine ⟨by kernel_rfl,fun j t ht=>?_⟩
 rw [Tryz.params13] at ht
 have hm:t∈([24,26,3]:List Nat):=by simpa using Array.mem_of_getElem? ht
 have hall:(([24,26,3]:List Nat).all fun u=>!Tryz.prog.wantsStandIn u)=true:=by kernel_rfl
 exact (show Tryz.prog.wantsStandIn t=false by simpa using List.all_eq_true.1 hall t hm)
theorem TopScale_proved:Rows.TopScaleCardSaid:=
 Claim7.holds_tied_plain_at .later [] _ _ _ _ Nq (fun _ h=>by cases h) AA (fun _ h=>by cases h) topScale_row_tie rfl ⟨rfl,rfl⟩ AA rfl J9 AA
end Go.Proofs.YtohacgmhmbijmaaGreatDoor
