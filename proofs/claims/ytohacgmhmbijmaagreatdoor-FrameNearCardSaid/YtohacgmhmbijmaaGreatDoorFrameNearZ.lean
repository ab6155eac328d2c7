/- The law FrameNear: its walk, and the statement. -/
import Derived.Test.YtohacgmhmbijmaaGreatDoorBaseNZ2
import Derived.Test.YtohacgmhmbijmaaGreatDoorBaseNZ3
import Derived.Test.YtohacgmhmbijmaaGreatDoorBaseNZ4
import Derived.Test.YtohacgmhmbijmaaGreatDoorBaseNZ5
import Derived.Test.YtohacgmhmbijmaaGreatDoorBaseNZ11
import Derived.Test.YtohacgmhmbijmaaGreatDoorBaseNZ18
import Derived.Test.YtohacgmhmbijmaaGreatDoorBaseNZ19
import Derived.Test.YtohacgmhmbijmaaGreatDoorRows
import Derived.Test.YtohacgmhmbijmaaGreatDoorCards
import Derived.Test.YtohacgmhmbijmaaGreatDoorTie
import Derived.Deep.DeepHandedRow
import Derived.Lay
import Derived.SevenTiedAt
namespace Go.Proofs.YtohacgmhmbijmaaGreatDoor
attribute [local irreducible] Region.wanted
open Go.ChangeShapes Go.WideShapes Go.ChangeAt Go.RowKit
set_option linter.unusedVariables false
set_option maxRecDepth 100000
set_option maxHeartbeats 8000000
theorem Lx{H:Type}{enc:TypeId×Value→H}{d0 d1 d2 d3:DataW H}{p0 p1 p2 p3:List MemPlace}{v0 v1 v2 v3:Value}{base:Nat}(W:World)
 (o0:Value.okWide Tryz.prog W .any base 30 v0) (h0:DataW.Trod enc Tryz.prog W 0 (fun _=>true) true 30 v0 d0 p0) (lt0:∀x∈p0,x.block<W.heap.size)
 (o1:Value.okWide Tryz.prog W .any base 3 v1) (h1:DataW.Trod enc Tryz.prog W 0 (fun _=>true) true 3 v1 d1 p1) (lt1:∀x∈p1,x.block<W.heap.size)
 (o2:Value.okWide Tryz.prog W .any base 3 v2) (h2:DataW.Trod enc Tryz.prog W 0 (fun _=>true) true 3 v2 d2 p2) (lt2:∀x∈p2,x.block<W.heap.size)
 (o3:Value.okWide Tryz.prog W .any base 3 v3) (h3:DataW.Trod enc Tryz.prog W 0 (fun _=>true) true 3 v3 d3 p3) (lt3:∀x∈p3,x.block<W.heap.size)
 (hsh:W.ShapedOpen Tryz.prog):
 Calls Tryz.prog 4 #[v0,v1,v2,v3] W fun e w'=>e= .returned (.bool true)∧Ah W w':=by
 obtain ⟨n,ns,hnl,hv,hw⟩:=JU .i64 Tryz.underlying30 1 AA 1 AA (by omega) o0 h0
 obtain ⟨z1,rfl,_,_⟩:=Dw Tryz.underlying3 o1 h1
 obtain ⟨z2,rfl,_,_⟩:=Dw Tryz.underlying3 o2 h2
 obtain ⟨z3,rfl,_,_⟩:=Dw Tryz.underlying3 o3 h3
 have hml:∃m,W.cell? ⟨0,0,none⟩=some (.int .i64 m):=Tryz.laysM185.s1_3 W hsh
 clear o0 h0 lt0 o1 h1 lt1 o2 h2 lt2 o3 h3 lt3 hw hsh
 obtain ⟨ad,cp,rfl,hnc,hcm⟩:∃ad c,v0= .slice ad n c∧n≤c∧c≤9223372036854775807:=by
  obtain ⟨_,ad,c,h1,h2,h3,_⟩:=hv
  exact ⟨ad,c,h1,h2,by unfold maxLen at h3;exact h3⟩
 obtain ⟨m,hm⟩:∃m,z1%64+1=m:=⟨_,rfl⟩
 obtain ⟨h,hh⟩:∃h,z2%64+1=h:=⟨_,rfl⟩
 have m0:1≤m∧m≤64:=by omega
 have m1:1≤h∧h≤64:=by omega
 obtain ⟨k0,k1⟩:=Dv m h 64 64 (by omega) (by omega)
 have k2:0<m*h:=Int.mul_pos (by omega) (by omega)
 obtain ⟨M,hM⟩:∃M:Nat,m*h=(M:Int):=⟨(m*h).toNat,by omega⟩
 have hMs:M≤4096:=by omega
 have hS:=St.start W
 have HM:=AD hm
 have HH:=AD hh
 have HML:=AD hml
 have HMM:=AD hM
 clear hm hh hml
 obtain ⟨ev,hev⟩:∃n:Nat,z3%101=(n:Int):=⟨(z3%101).toNat,by omega⟩
 have he:ev≤100:=by omega
 have HV:=AD fun (w:World)=>hev▸ Sm z3 w
 clear hev
 go_enter Tryz.func4,Tryz.ntmps4
 repeat' (first
  | refine gm 30 ?_|(refine Am 15 ?_);refine An AA Tryz.call15 (GR _ (HML.out.imp fun m h=>hS.1.cell h)) (Fq hS ?_);clear hS;intro w hS;go_step|(refine Am 25 ?_);refine An AA Tryz.call25 (H6 _ z1 z2) ?_;rintro e w' ⟨rfl,rfl⟩;rw [HM.out,HH.out];refine Ab ?_;go_step|(refine Am 26 ?_);refine An AA Tryz.call26 (Hc _ _ n _ M ns (by omega) (by omega) (hv.ext hS.1)) ?_;rintro e w ⟨a9,c9,p,rfl,hpl,hp,hS2⟩;replace hS:=hS.call1 hS2;clear hS2;have HP:=AD hp;have HPL:=AD hpl;clear hp hpl;refine Ab ?_;go_step|refine X0 ?_|refine T7 18 ?_|refine X3 23 ?_|refine X3 24 ?_|refine YG 33 ?_|refine eh 32 ?_;clear hS;intro g32 w hS|refine Tz 9 ?_;clear hS;intro g9 w hS|refine T2 ?_;clear hS;intro w hS|refine AG ?_;go_step|fail)
 all_goals (try exact AS)
 have hfz:Gg m h (List.replicate 64 1) [p]=0:=by rw [Li p M m h _ m0 m1 HMM.out HPL.out HP.out,if_pos PW]
 have hpz:=Id (ev:=ev) List.length_replicate he hfz
 have hC:∀w g,A8 w (some ⟨g,0,none⟩) 1 (List.replicate 1 ⟨a9,c9,p⟩)→Calls Tryz.prog 17 #[.agg #[.int .i64 m, .int .i64 h, .slice (some ⟨g,0,none⟩) 1 1], .agg (iv (List.replicate 64 1)), .int .i64 ev] w (Dp w (DM m h (List.replicate 64 1) [p] ev) m h (List.replicate 64 1) 1 ev (FX m h (List.replicate 64 1) [p]) (1*Aa m h)):=
  fun w g hP=>LX w m h (by omega) (some ⟨g,0,none⟩) 1 _ (by show 1≤9223372036854775807;omega) hP _ List.length_replicate ev he
 have hD:=O7 (ev:=ev) (L:=[p]) List.length_replicate he hfz
 rw [show [p].length=1 from rfl,PP List.length_replicate] at hD
 rw [hpz] at hC
 have hN:=Zq (p:=p) (M:=M) ⟨m0.1,m0.2,m1.1,m1.2⟩ HMM.out.symm HP.out
 have hXl:(Ei m h (List.replicate 64 1) p).length=M:=JW HMM.out.symm
 have hXi:∀i,i<M→0≤AF (Ei m h (List.replicate 64 1) p) i∧AF (Ei m h (List.replicate 64 1) p) i≤255:=fun i hi=>dy i (by rw [hXl];exact hi)
 obtain ⟨X,hX⟩:∃X,Ei m h (List.replicate 64 1) p=X:=⟨_,rfl⟩
 obtain ⟨B,hBe⟩:∃B,FX m h (List.replicate 64 1) [p]=B:=⟨_,rfl⟩
 obtain ⟨nb,hnb⟩:∃nb,1*Aa m h=nb:=⟨_,rfl⟩
 rw [hX] at hD hN hXl hXi
 rw [hBe,hnb] at hC hD
 have HC:=AD fun w g hP=>(hC w g hP).mono fun e w' hh=>hh.out
 have HD:=AD hD
 have HN:=AD hN
 have HXL:=AD hXl
 have HXI:=AD hXi
 clear hC hD hN hXl hXi hX hBe hnb hpz hfz
 refine AP [4,9] (fun w=>St W w [blk g9 [.int .i64 m, .int .i64 h, .slice (some ⟨g32,0,none⟩) 1 1],blk g32 [.slice a9 M c9],own 3 1 a9 M c9 (p.map (Value.int .i64))]) AA ?_
 replace hS:=hS.drew
 focus
  refine kc 0 [4,5,6,7,9,10] ?_
  refine AY 2 ?_
  refine Ay [1,8] AA (by simp) (.cons Ai AA ?_ (.cons Ai AA ?_ (.nil)))
  rotate_left 1
  focus
   refine Y8 ?_;clear hS;intro g10 w hS
   refine Ao 1 ?_
   refine AR (f:=27) rfl Tryz.call27 (F4 _ 1) ?_;rintro e w ⟨rfl,hE⟩;replace hS:=hS.ext hE;clear hE;refine ⟨_,rfl,?_⟩
   refine ⟨fun _ _=>hS.sub AV,?_⟩
   refine AI ?_
   go_step
   refine Ao 3 ?_
   refine AR (f:=16) rfl Tryz.call16 (HV.out _) ?_;rintro e w' ⟨rfl,rfl⟩;refine ⟨_,rfl,?_⟩
   refine ⟨fun _ _=>hS.sub AV,?_⟩
   refine AI ?_
   go_step
   refine Ao 4 ?_
   refine AR (f:=17) rfl Tryz.call17 (HC.out _ g32 (Cr (cs:=[.slice a9 M c9]) hS AM rfl HPL.out (by decide) (hS.sl AM))) ?_;rintro e w ⟨C1,S1,C2,S2,D,a1,a2,bd,n1,k1,n2,k2,nd,kd,hen,rfl,hS2⟩;replace hS:=hS.call hS2;clear hS2;simp only [List.cons_append,List.nil_append] at hS;have hC1:=hen.l1;have hC2:=hen.l2;have HEN:=AD hen;clear hen;refine ⟨_,rfl,?_⟩
   refine ⟨fun h=>absurd (by decide) h,?_⟩
   refine AI ?_
   go_step
   refine AY 5 ?_
   refine Y1 6 ?_
   refine Y1 7 ?_
   refine Ao 9 ?_
   refine Y9 ?_;clear hS;intro w hS
   refine AY 10 ?_
   refine AE AA ?_ _
  rotate_right 1
  focus
   refine AR (f:=27) rfl Tryz.call27 (F4 _ 1) ?_;rintro e w ⟨rfl,hE⟩;replace hS:=hS.ext hE;clear hE;refine ⟨_,rfl,?_⟩
   refine ⟨fun _ _=>hS.sub AV,?_⟩
   refine AI ?_
   go_step
   refine Ay [3,8] AA (by simp) (.cons Ai AA ?_ (.cons Ai AA ?_ (.nil)))
   rotate_left 1
   focus
    refine Y8 ?_;clear hS;intro g10 w hS
    refine Ao 3 ?_
    refine AR (f:=16) rfl Tryz.call16 (HV.out _) ?_;rintro e w' ⟨rfl,rfl⟩;refine ⟨_,rfl,?_⟩
    refine ⟨fun _ _=>hS.sub AV,?_⟩
    refine AI ?_
    go_step
    refine Ao 4 ?_
    refine AR (f:=17) rfl Tryz.call17 (HC.out _ g32 (Cr (cs:=[.slice a9 M c9]) hS AM rfl HPL.out (by decide) (hS.sl AM))) ?_;rintro e w ⟨C1,S1,C2,S2,D,a1,a2,bd,n1,k1,n2,k2,nd,kd,hen,rfl,hS2⟩;replace hS:=hS.call hS2;clear hS2;simp only [List.cons_append,List.nil_append] at hS;have hC1:=hen.l1;have hC2:=hen.l2;have HEN:=AD hen;clear hen;refine ⟨_,rfl,?_⟩
    refine ⟨fun h=>absurd (by decide) h,?_⟩
    refine AI ?_
    go_step
    refine AY 5 ?_
    refine Y1 6 ?_
    refine Y1 7 ?_
    refine Ao 9 ?_
    refine Y9 ?_;clear hS;intro w hS
    refine AY 10 ?_
    refine AE AA ?_ _
   rotate_right 1
   focus
    refine AR (f:=16) rfl Tryz.call16 (HV.out _) ?_;rintro e w' ⟨rfl,rfl⟩;refine ⟨_,rfl,?_⟩
    refine ⟨fun _ _=>hS.sub AV,?_⟩
    refine AI ?_
    go_step
    refine Ay [4,8] AA (by simp) (.cons Ai AA ?_ (.cons Ai AA ?_ (.nil)))
    rotate_left 1
    focus
     refine Y8 ?_;clear hS;intro g10 w hS
     refine Ao 4 ?_
     refine AR (f:=17) rfl Tryz.call17 (HC.out _ g32 (Cr (cs:=[.slice a9 M c9]) hS AM rfl HPL.out (by decide) (hS.sl AM))) ?_;rintro e w ⟨C1,S1,C2,S2,D,a1,a2,bd,n1,k1,n2,k2,nd,kd,hen,rfl,hS2⟩;replace hS:=hS.call hS2;clear hS2;simp only [List.cons_append,List.nil_append] at hS;have hC1:=hen.l1;have hC2:=hen.l2;have HEN:=AD hen;clear hen;refine ⟨_,rfl,?_⟩
     refine ⟨fun h=>absurd (by decide) h,?_⟩
     refine AI ?_
     go_step
     refine AY 5 ?_
     refine Y1 6 ?_
     refine Y1 7 ?_
     refine Ao 9 ?_
     refine Y9 ?_;clear hS;intro w hS
     refine AY 10 ?_
     refine AE AA ?_ _
    rotate_right 1
    focus
     refine AR (f:=17) rfl Tryz.call17 (HC.out _ g32 (Cr (cs:=[.slice a9 M c9]) hS AM rfl HPL.out (by decide) (hS.sl AM))) ?_;rintro e w ⟨C1,S1,C2,S2,D,a1,a2,bd,n1,k1,n2,k2,nd,kd,hen,rfl,hS2⟩;replace hS:=hS.call hS2;clear hS2;simp only [List.cons_append,List.nil_append] at hS;have hC1:=hen.l1;have hC2:=hen.l2;have HEN:=AD hen;clear hen;refine ⟨_,rfl,?_⟩
     refine ⟨fun h=>absurd (by decide) h,?_⟩
     refine AI ?_
     go_step
     refine AY 5 ?_
     refine Y1 6 ?_
     refine Y1 7 ?_
     refine Ao 8 ?_
     refine Y8 ?_;clear hS;intro g10 w hS
     refine Ao 9 ?_
     refine Y9 ?_;clear hS;intro w hS
     refine AY 10 ?_
     refine AE AA ?_ _
 all_goals
  repeat' (first|(refine AG ?_;go_step)|fail)
  repeat' (first
   | (refine Am 21 ?_);refine An AA Tryz.call21 (HD.out _ C1 S1 C2 S2 D a1 a2 bd n1 k1 n2 k2 nd kd (HML.out.imp fun m h=>hS.1.cell h) HEN.out (hS.sl AM) (hS.sl AM) (hS.sl AM)) ?_;rintro e w ⟨a5,c5,R5,hR5,rfl,hP9⟩;replace hS:=hS.call hP9;clear hP9;simp only [List.cons_append,List.nil_append] at hS;have HR5:=AD hR5;clear hR5;refine Ab ?_;go_step|refine X0 ?_|refine X3 45 ?_|refine X3 46 ?_|refine SD ?_|refine Tz 12 ?_;clear hS;intro g12 w hS|refine T2 ?_;clear hS;intro w hS|refine AG ?_;go_step|fail)
  have hPI:=A8.of (a:=a5) (c:=c5) (R:=R5) hS AM AM
  have h12:w.cell? ⟨g12,2,none⟩=some (.slice a5 R5.length c5):=Fv (g:=g12) (k:=2) hS AM rfl
  have h9:w.cell? ⟨g9,2,none⟩=some (.slice (some ⟨g32,0,none⟩) 1 1):=Fv (g:=g9) (k:=2) hS AM rfl
  have h32:w.cell? ⟨g32,0,none⟩=some (.slice a9 M c9):=Fv (g:=g32) (k:=0) hS AM rfl
  have hvp:Sl w 1 (.slice a9 M c9) M (p.map (Value.int .i64)):=hS.sl (a:=a9) AM
  have hE9:=hS.1
  obtain ⟨b0,u0,rfl⟩:=Z6 HR5.out
  obtain ⟨bb,off,rfl,hcl⟩:=DV hPI.sl (by show 0<1;omega)
  have h12':w.cell? ⟨g12,2,none⟩=some (.slice (some ⟨bb,off,none⟩) 1 c5):=h12
  have x0:w.cell? ⟨bb,off,none⟩=some (.slice b0 M u0):=by have:=hcl 0 _ rfl;rw [Rw.val,HXL.out] at this;exact this
  have hvx:Sl w 1 (.slice b0 M u0) M (X.map (Value.int .i64)):=by have:=hPI.row ⟨b0,u0,X⟩ (by simp);rw [Rw.val] at this;dsimp only at this;rw [HXL.out] at this;exact this
  clear hS hPI hcl h12 HEN HD HC hC1 hC2 hv
  obtain ⟨W1,hW1⟩:∃z,z=w:=⟨w,rfl⟩
  subst hW1
  have hS:=St.start W1
  repeat' (first
   | refine gm 67 ?_|refine X1 ?_|refine Gj ?_|refine X9 48 ?_ ?_<;>intro hB<;>(try exact AS)<;>go_step|refine X9 51 ?_ ?_<;>intro hB<;>(try exact AS)<;>go_step|refine X9 57 ?_ ?_<;>intro hB<;>(try exact AS)<;>go_step|refine Xa 54 ?_|refine YC 56 ?_|refine Xa 60 ?_|refine bU 62 ?_|refine LR 64 ?_|refine Gq 68 ?_|refine cX ?_|refine SC ?_|refine AG ?_;go_step|fail)
  all_goals (try exact AS)
  all_goals (try (have hF:False:=(hB rfl);cases hF))
  repeat' (first
   | refine X1 ?_|refine Xa 70 ?_|refine bU 72 ?_|refine LR 74 ?_|refine cX ?_|refine SC ?_|refine AG ?_;go_step|fail)
  go_loopg [75] M (fun gk kv w=>∃k:Nat,gk+k=M∧kv= .int .i64 k∧St W1 w [])
  case atStart=>exact ⟨0,rfl,rfl,hS⟩
  case round=>
   clear hS
   obtain ⟨k,hk,rfl,hS⟩:=hrel
   by_cases hlt:k<M
   ·have hn:=HN.out k hlt
    have hp:=HP.out k
    have hx:=HXI.out k hlt
    repeat' (first
     | refine X0 ?_|refine X4 76 ?_|refine cT 78 ?_;intro b78 o78 hc78;go_step|refine Xa 81 ?_|refine bU 83 ?_|refine cT 86 ?_;intro b86 o86 hc86;go_step|(refine AQ 88 ?_);(refine Aq AA (V.subI rfl rfl (by omega)) ?_;go_step)|refine cS 91 ?_|refine cR 92 ?_|refine L9 93 ?_|refine Ns 94 ?_|refine SQ ?_|refine cX ?_|refine SC ?_|refine AG ?_;go_step|fail)
    all_goals (try exact AS)
    go_roundg (gk-1)
    case measure=>omega
    case rel=>exact ⟨k+1,by omega,by go_num,hS.sub AV⟩
   obtain rfl:k=M:=by omega
   repeat' (first
    | refine X8 ?_|refine X4 76 ?_|refine AG ?_;go_step|fail)
   all_goals (try exact AS)
   repeat' (first
    | refine AG ?_;go_step|fail)
   go_ret
   exact ⟨rfl,hE9.trans hS.1⟩
def DB:Array Value:=#[.slice none 0 0, .int .i64 0, .int .i64 0, .int .i64 0]
theorem Nn:ownKnob Tryz.prog.godebug=none:=by kernel_rfl
theorem C4:laidOutB Tryz.prog=true:=by kernel_rfl
theorem Nm(os:Os)(args:Array Value):laidMetH Tryz.prog Rows.frameNearRow.laid ((World.laidAll Tryz.prog os Rows.frameNearRow.laid).forCall (fun _ _=>0) ⟨#[],args,[]⟩).memory:=by
 rw [MakeChecks.laidMetH_plain _ _ _ AA];exact laidMet_laidAll _ AA AA
theorem LE(os:Os){H:Type}(enc:TypeId×Value→H):∃places,DataW.whole enc Tryz.prog ((World.laidAll Tryz.prog os Rows.frameNearRow.laid).forCall (fun _ _=>0) ⟨#[],DB,[]⟩).memory Tryz.f4.params.toList Rows.frameNearSpec.vars false (DB:Array Value).toList 8=some ([.nil, .lit (.int .i64 0), .lit (.int .i64 0), .lit (.int .i64 0)],[],places):=
 ⟨[],by kernel_rfl⟩
theorem J4(os:Os)(started:os.Started)(H:Type)(enc:TypeId×Value→H)(F:Stop.Interp):
 ReturnsInHanded {} Tryz.checked os 4 .any ((OpenSpec.ofChange Rows.frameNearSpec).preRow enc Tryz.prog Tryz.f4 Rows.frameNearRow.domain false Rows.frameNearRow.laid) (((OpenSpec.ofChange Rows.frameNearSpec).at F).post enc Tryz.prog Tryz.f4 false true false false):=by
 obtain ⟨places,hx⟩:=LE os enc
 have hok:Input.okWideB Tryz.prog ((World.laidAll Tryz.prog os Rows.frameNearRow.laid).forCall (fun _ _=>0) ⟨#[],DB,[]⟩) 4 ⟨#[],DB,[]⟩=true:=by kernel_rfl
 refine returnsInHanded_of_row (C:=Tryz.checked) (s:=OpenSpec.ofChange Rows.frameNearSpec) Nn started AA Tryz.func4
  ⟨(World.laidAll Tryz.prog os Rows.frameNearRow.laid),fun _ _=>0,⟨#[],DB,[]⟩,World.laidAll_os _ _ _,World.shaped_of_ZipB AA AA,(Input.okWide_of_okWideB (base:=0) hok).1,(Input.okWide_of_okWideB hok).2,
   OpenSpec.preRow_of_cond 8 hx AA (fun k hk=>by cases hk) AA (Nm os _),by
   simp only [Assume.holds]
   exact ⟨by simp,by simp,by simp,by simp,by simp⟩⟩ ?_
 intro W base args ds gs before hval0 hW _ hk _ hL hsh _
 have hval:∀(j:Nat) t v,Tryz.f4.params[j]? =some t→args[j]? =some v→Value.okWide Tryz.prog W .any base t v:=hval0
 have hW':=hW
 obtain ⟨p,q,hA0,hV,rfl,hfz,hnd⟩:=hW
 have hA:DataW.TrodAll enc Tryz.prog W 0 (fun _=>true) true Tryz.f4.params.toList args.toList ds p:=hA0
 rw [Tryz.params4] at hA hval
 obtain ⟨v0,vs0,d0,ds0,p0,q0,hargs,rfl,rfl,h0,r0⟩:=trodAll_cons hA
 obtain ⟨v1,vs1,d1,ds1,p1,q1,rfl,rfl,rfl,h1,r1⟩:=trodAll_cons r0
 obtain ⟨v2,vs2,d2,ds2,p2,q2,rfl,rfl,rfl,h2,r2⟩:=trodAll_cons r1
 obtain ⟨v3,vs3,d3,ds3,p3,q3,rfl,rfl,rfl,h3,r3⟩:=trodAll_cons r2
 obtain ⟨rfl,rfl,rfl⟩:=trodAll_nil r3
 obtain rfl:args=#[v0,v1,v2,v3]:=by cases args;simp_all
 obtain ⟨rfl,rfl⟩:=trodVars_none hV
 have lt0:∀x∈p0,x.block<W.heap.size:=by obtain ⟨m,hm⟩:=h0;exact DataW.trod_lt m _ _ _ hm
 have lt1:∀x∈p1,x.block<W.heap.size:=by obtain ⟨m,hm⟩:=h1;exact DataW.trod_lt m _ _ _ hm
 have lt2:∀x∈p2,x.block<W.heap.size:=by obtain ⟨m,hm⟩:=h2;exact DataW.trod_lt m _ _ _ hm
 have lt3:∀x∈p3,x.block<W.heap.size:=by obtain ⟨m,hm⟩:=h3;exact DataW.trod_lt m _ _ _ hm
 refine (Lx W (hval 0 30 v0 rfl rfl) h0 lt0 (hval 1 3 v1 rfl rfl) h1 lt1 (hval 2 3 v2 rfl rfl) h2 lt2 (hval 3 3 v3 rfl rfl) h3 lt3 hsh).mono fun e W' ⟨he,bel⟩=>?_
 subst he
 exact ⟨_,rfl,_,_,_,[],_,[],hW',trodAll_mk1 (shut_bool Tryz.underlying4 _),(trodAll_cons_mk (Below.trod C4 AA (of_decide_eq_true AA) h0 bel lt0) (trodAll_cons_mk (Below.trod C4 AA (of_decide_eq_true AA) h1 bel lt1) (trodAll_cons_mk (Below.trod C4 AA (of_decide_eq_true AA) h2 bel lt2) (trodAll_cons_mk (Below.trod C4 AA (of_decide_eq_true AA) h3 bel lt3) trodAll_mk0)))),rfl,bel.frame _,fun h=>by cases h⟩
theorem Lw:Rows.FrameNearSaid:=
 OpenClaim.holds_of_cond 4 Tryz.f4 rfl rfl rfl rfl rfl rfl rfl ⟨rfl,rfl,rfl,rfl,rfl⟩ rfl rfl rfl rfl rfl AA Tryz.func4 AA
  (of_decide_eq_true AA) (by unfold Func.isWrapper;rw [if_neg (by decide+kernel)];exact ⟨rfl,rfl⟩)
  (fun os started H enc _ F=>by rw [OpenClaim.pre_eq_preRow];exact J4 os started H enc F)
theorem I4(f:FuncId)(fn:Func)(hf:Tryz.pinned.checked.prog.funcNamed "mezzotint/mezzotintkeep.FrameNear" =some f)(hfn:Tryz.pinned.checked.prog.funcs[f]? =some fn):
 false=Tryz.pinned.checked.prog.looks []∧∀(j:Nat) t,fn.params[j]? =some t→Tryz.pinned.checked.prog.wantsStandIn t=false:=by
 obtain rfl:f=4:=Option.some.inj ((show Tryz.prog.funcNamed "mezzotint/mezzotintkeep.FrameNear" =some 4 by kernel_rfl).symm.trans hf) |>.symm
 obtain rfl:fn=Tryz.f4:=(Option.some.inj (Tryz.func4.symm.trans hfn)).symm
 refine ⟨by kernel_rfl,fun j t ht=>?_⟩
 rw [Tryz.params4] at ht
 have hm:t∈([30,3,3,3]:List Nat):=by simpa using Array.mem_of_getElem? ht
 have hall:(([30,3,3,3]:List Nat).all fun u=>!Tryz.prog.wantsStandIn u)=true:=by kernel_rfl
 exact (show Tryz.prog.wantsStandIn t=false by simpa using List.all_eq_true.1 hall t hm)
theorem FrameNear_proved:Rows.FrameNearCardSaid:=
 Claim7.holds_tied_plain_at .later [] _ _ _ _ Lw (fun _ h=>by cases h) AA (fun _ h=>by cases h) frameNear_row_tie rfl ⟨rfl,rfl⟩ AA rfl I4 AA
end Go.Proofs.YtohacgmhmbijmaaGreatDoor
