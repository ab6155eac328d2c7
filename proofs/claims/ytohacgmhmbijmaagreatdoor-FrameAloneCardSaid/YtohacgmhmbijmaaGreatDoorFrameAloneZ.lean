/- The law FrameAlone: its walk, and the statement. -/
import Derived.Test.YtohacgmhmbijmaaGreatDoorBaseNZ2
import Derived.Test.YtohacgmhmbijmaaGreatDoorBaseNZ3
import Derived.Test.YtohacgmhmbijmaaGreatDoorBaseNZ4
import Derived.Test.YtohacgmhmbijmaaGreatDoorBaseNZ5
import Derived.Test.YtohacgmhmbijmaaGreatDoorBaseNZ18
import Derived.Test.YtohacgmhmbijmaaGreatDoorRows
import Derived.Test.YtohacgmhmbijmaaGreatDoorCards
import Derived.Test.YtohacgmhmbijmaaGreatDoorTie
import Derived.Deep.DeepHandedRow
import Derived.Lay
import Derived.SevenTiedAt
namespace Go.Proofs.YtohacgmhmbijmaaGreatDoor
attribute [local irreducible] Region.wanted
open Go.ChangeShapes Go.WideShapes Go.ChangeAt Go.RowKit
set_option linter.unusedVariables false
set_option maxRecDepth 100000
set_option maxHeartbeats 8000000
theorem iE{B Z:List Int}{K:Nat}(hB:B.length=K*64):(((B++Z).map (Value.int .i64)).drop (0*64)).take ((K-0)*64)=B.map (Value.int .i64):=by
 rw [Nat.zero_mul,List.drop_zero,Nat.sub_zero,List.map_append,List.take_append_of_le_length (by rw [List.length_map];omega),List.take_of_length_le (by rw [List.length_map];omega)]
theorem iD{B:List Int}{K n3:Nat}(hB:B.length=K*64)(hn3:3*K=n3):(((B++List.replicate (2*K*64) 0).map (Value.int .i64)).drop (K*64)).take ((n3-K)*64)=(List.replicate ((n3-K)*64) (0:Int)).map (Value.int .i64):=by
 rw [←List.map_drop,←hB,List.drop_left,←List.map_take,List.take_replicate]
 congr 2
 omega
theorem LB{H:Type}{enc:TypeId×Value→H}{d0 d1 d2 d3:DataW H}{p0 p1 p2 p3:List MemPlace}{v0 v1 v2 v3:Value}{base:Nat}(W:World)
 (o0:Value.okWide Tryz.prog W .any base 30 v0) (h0:DataW.Trod enc Tryz.prog W 0 (fun _=>true) true 30 v0 d0 p0) (lt0:∀x∈p0,x.block<W.heap.size)
 (o1:Value.okWide Tryz.prog W .any base 3 v1) (h1:DataW.Trod enc Tryz.prog W 0 (fun _=>true) true 3 v1 d1 p1) (lt1:∀x∈p1,x.block<W.heap.size)
 (o2:Value.okWide Tryz.prog W .any base 3 v2) (h2:DataW.Trod enc Tryz.prog W 0 (fun _=>true) true 3 v2 d2 p2) (lt2:∀x∈p2,x.block<W.heap.size)
 (o3:Value.okWide Tryz.prog W .any base 26 v3) (h3:DataW.Trod enc Tryz.prog W 0 (fun _=>true) true 26 v3 d3 p3) (lt3:∀x∈p3,x.block<W.heap.size)
 (hsh:W.ShapedOpen Tryz.prog):
 Calls Tryz.prog 7 #[v0,v1,v2,v3] W fun e w'=>e= .returned (.bool true)∧Ah W w':=by
 obtain ⟨n,ns,hnl,hv,hw⟩:=JU .i64 Tryz.underlying30 1 AA 1 AA (by omega) o0 h0
 obtain ⟨z1,rfl,_,_⟩:=Dw Tryz.underlying3 o1 h1
 obtain ⟨z2,rfl,_,_⟩:=Dw Tryz.underlying3 o2 h2
 obtain ⟨q,hq,rfl,_⟩:=JT o3
 have hml:∃m,W.cell? ⟨0,0,none⟩=some (.int .i64 m):=Tryz.laysM185.s1_3 W hsh
 clear o0 h0 lt0 o1 h1 lt1 o2 h2 lt2 o3 h3 lt3 hw hsh
 obtain ⟨ad,cp,rfl,hnc,hcm⟩:∃ad c,v0= .slice ad n c∧n≤c∧c≤9223372036854775807:=by
  obtain ⟨_,ad,c,h1,h2,h3,_⟩:=hv
  exact ⟨ad,c,h1,h2,by unfold maxLen at h3;exact h3⟩
 obtain ⟨m,hm⟩:∃m,z1%64+1=m:=⟨_,rfl⟩
 obtain ⟨h,hh⟩:∃h,z2%64+1=h:=⟨_,rfl⟩
 have m0:1≤m∧m≤64:=by omega
 have m1:1≤h∧h≤64:=by omega
 obtain ⟨k0,k1⟩:=Dv m h 64 64 (by omega) (by omega)
 have k2:0<m*h:=Int.mul_pos (by omega) (by omega)
 obtain ⟨M,hM⟩:∃M:Nat,m*h=(M:Int):=⟨(m*h).toNat,by omega⟩
 have hMs:M≤4096:=by omega
 have hS:=St.start W
 have HM:=AD hm
 have HH:=AD hh
 have HML:=AD hml
 have HMM:=AD hM
 obtain ⟨K,hK⟩:∃K,Aa m h=K:=⟨_,rfl⟩
 have hK64:K≤64:=by have:=(FE ⟨m0.1,m0.2,m1.1,m1.2⟩).2.1;omega
 have HK:=AD hK
 clear hm hh hml hK
 have hqL:Ae q 64:=hq
 go_enter Tryz.func7,Tryz.ntmps7
 repeat' (first
  | refine gm 27 ?_|(refine Am 15 ?_);refine An AA Tryz.call15 (GR _ (HML.out.imp fun m h=>hS.1.cell h)) (Fq hS ?_);clear hS;intro w hS;go_step|(refine Am 25 ?_);refine An AA Tryz.call25 (H6 _ z1 z2) ?_;rintro e w' ⟨rfl,rfl⟩;rw [HM.out,HH.out];refine Ab ?_;go_step|(refine Am 26 ?_);refine An AA Tryz.call26 (Hc _ _ n _ M ns (by omega) (by omega) (hv.ext hS.1)) ?_;rintro e w ⟨a9,c9,p,rfl,hpl,hp,hS2⟩;replace hS:=hS.call1 hS2;clear hS2;have HP:=AD hp;have HPL:=AD hpl;clear hp hpl;refine Ab ?_;go_step|refine X0 ?_|refine T7 17 ?_|refine X3 22 ?_|refine X3 23 ?_|refine L7 7 ?_;clear hS;intro g7 w hS|refine AG ?_;go_step|fail)
 all_goals (try exact AS)
 have hE1:=Li p M m h q m0 m1 HMM.out HPL.out HP.out
 have hE3:Gg m h q [p,p,p]=Gg m h q [p]:=Yz
 have hB3:=Qv (m:=m) (h:=h) (q:=q) (s:=p) ⟨m0.1,m0.2,m1.1,m1.2⟩ HMM.out.symm hq HPL.out fun i _=>HP.out i
 have hBl:=FY m h q hq [p]
 rw [HK.out] at hBl hB3
 have hC3:∀w g,A8 w (some ⟨g,0,none⟩) 3 (List.replicate 3 ⟨a9,c9,p⟩)→Calls Tryz.prog 19 #[.agg #[.int .i64 m, .int .i64 h, .slice (some ⟨g,0,none⟩) 3 3], .agg (iv q)] w (Gs w (Gg m h q [p,p,p]) (FX m h q [p,p,p]) (3*Aa m h)):=
  fun w g hP=>EF w m h (by omega) (some ⟨g,0,none⟩) 3 _ (by show 3≤9223372036854775807;omega) hP q hq
 have hC1:∀w g,A8 w (some ⟨g,0,none⟩) 1 (List.replicate 1 ⟨a9,c9,p⟩)→Calls Tryz.prog 19 #[.agg #[.int .i64 m, .int .i64 h, .slice (some ⟨g,0,none⟩) 1 1], .agg (iv q)] w (Gs w (Gg m h q [p]) (FX m h q [p]) (1*Aa m h)):=
  fun w g hP=>EF w m h (by omega) (some ⟨g,0,none⟩) 1 _ (by show 1≤9223372036854775807;omega) hP q hq
 rw [hE3,hB3,HK.out] at hC3
 rw [HK.out,Nat.one_mul] at hC1
 obtain ⟨E,hEe⟩:∃E,Gg m h q [p]=E:=⟨_,rfl⟩
 obtain ⟨B,hBe⟩:∃B,FX m h q [p]=B:=⟨_,rfl⟩
 rw [hEe,hBe] at hC3 hC1
 rw [hEe] at hE1
 rw [hBe] at hBl
 have hBK:B.length=K*64:=by rw [hBl];show 1*K*64=K*64;omega
 clear hE3 hB3 hBl hEe hBe
 have hE01:E=0∨E=1:=by
  rw [hE1]
  by_cases hk:Ej q=true
  ·rw [if_pos hk];exact .inl rfl
  rw [if_neg hk];exact .inr rfl
 clear hE1
 obtain ⟨n3,hn3⟩:∃n3,3*K=n3:=⟨_,rfl⟩
 rw [hn3] at hC3
 rcases hE01 with rfl|rfl
 case inr=>
  have HC3:=AD fun w g hP=>(hC3 w g hP).mono fun e w' hh=>hh.1 (by decide)
  have HC1:=AD fun w g hP=>(hC1 w g hP).mono fun e w' hh=>hh.1 (by decide)
  clear hC3 hC1
  repeat' (first
   | (refine AQ 38 ?_);refine AL (f:=19) Tryz.call19 AA ?_;refine ⟨_,(HC3.out _ g35 (Cr (cs:=[.slice a9 M c9, .slice a9 M c9, .slice a9 M c9]) hS AM rfl HPL.out (by decide) (hS.sl AM))),?_⟩;rintro e w ⟨rfl,hE⟩;replace hS:=hS.ext hE;clear hE;refine Ab ?_;go_step|(refine AQ 48 ?_);refine AL (f:=19) Tryz.call19 AA ?_;refine ⟨_,(HC1.out _ g45 (Cr (cs:=[.slice a9 M c9]) hS AM rfl HPL.out (by decide) (hS.sl AM))),?_⟩;rintro e w ⟨rfl,hE⟩;replace hS:=hS.ext hE;clear hE;refine Ab ?_;go_step|go_skip|refine X0 ?_|refine GE ?_|refine X9 52 ?_ ?_<;>intro hB<;>(try exact AS)<;>go_step|refine YG 36 ?_|refine X3 39 ?_|refine X3 40 ?_|refine YG 46 ?_|refine X3 49 ?_|refine X3 50 ?_|refine LQ 59 ?_|refine bu 35 ?_;clear hS;intro g35 w hS|refine Hp ?_|refine eh 45 ?_;clear hS;intro g45 w hS|refine AG ?_;go_step|fail)
  all_goals (try exact AS)
  all_goals (try (have hF:False:=(hB rfl);cases hF))
  all_goals
   go_ret
   exact ⟨rfl,hS.1⟩
 have HC3:=AD fun w g hP=>(hC3 w g hP).mono fun e w' hh=>hh.2 rfl
 have HC1:=AD fun w g hP=>(hC1 w g hP).mono fun e w' hh=>hh.2 rfl
 clear hC3 hC1
 repeat' (first
  | (refine AQ 38 ?_);refine AL (f:=19) Tryz.call19 AA ?_;refine ⟨_,(HC3.out _ g35 (Cr (cs:=[.slice a9 M c9, .slice a9 M c9, .slice a9 M c9]) hS AM rfl HPL.out (by decide) (hS.sl AM))),?_⟩;rintro e w ⟨ao,co,rfl,hS2⟩;replace hS:=hS.call1 hS2;clear hS2;have hcap:=im (hS.sl (a:=ao) AM);refine Ab ?_;go_step|(refine AQ 48 ?_);refine AL (f:=19) Tryz.call19 AA ?_;refine ⟨_,(HC1.out _ g45 (Cr (cs:=[.slice a9 M c9]) hS AM rfl HPL.out (by decide) (hS.sl AM))),?_⟩;rintro e w ⟨bo,cb,rfl,hS2⟩;replace hS:=hS.call1 hS2;clear hS2;refine Ab ?_;go_step|refine X0 ?_|refine Gj ?_|refine X9 52 ?_ ?_<;>intro hB<;>(try exact AS)<;>go_step|refine YG 36 ?_|refine X3 39 ?_|refine X3 40 ?_|refine YG 46 ?_|refine X3 49 ?_|refine X3 50 ?_|refine Gq 55 ?_|refine bu 35 ?_;clear hS;intro g35 w hS|refine Hp ?_|refine eh 45 ?_;clear hS;intro g45 w hS|refine AG ?_;go_step|fail)
 all_goals (try exact AS)
 all_goals (try (have hF:False:=(hB rfl);cases hF))
 have HEQ:Hid (∀w,Sl w 64 (.slice ao n3 co) n3 ((B++List.replicate (2*K*64) 0).map (Value.int .i64))→Sl w 64 (.slice bo K cb) K (B.map (Value.int .i64))→Calls Tryz.prog 22 #[.slice (cutAt ao co 0 64) (K-0) (co-0), .slice bo K cb] w fun e w'=>e= .returned (.bool true)∧Ah w w'):=AD fun w hs h2=>by
  have h1:=hs.cutAt 0 K (by omega) (by omega)
  rw [iE hBK] at h1
  rw [Nat.sub_zero,Nat.sub_zero] at h1⊢
  exact WT w _ bo K co cb B h1 h2 (by omega)
 have HT2:Hid (∀w,Sl w 64 (.slice ao n3 co) n3 ((B++List.replicate (2*K*64) 0).map (Value.int .i64))→Sl w 64 (.slice (cutAt ao co K 64) (n3-K) (co-K)) (n3-K) ((List.replicate ((n3-K)*64) 0).map (Value.int .i64))):=AD fun w hs=>by
  have:=hs.cutAt K n3 (by omega) (Nat.le_refl _)
  rw [iD hBK hn3] at this
  exact this
 repeat' (first
  | (refine Am 22 ?_);refine An AA Tryz.call22 (HEQ.out _ (hS.sl AM) (hS.sl AM)) (Fq hS ?_);clear hS;intro w hS;go_step|refine X1 ?_|refine Gj ?_|refine X9 65 ?_ ?_<;>intro hB<;>(try exact AS)<;>go_step|refine YJ 61 ?_|refine YJ 63 ?_|(refine AQ 64 ?_);(refine Aq AA (V.mulI rfl rfl (by omega)) ?_;go_step)|refine YJ 69 ?_|refine ju 70 ?_|refine T7 73 ?_|refine AG ?_;go_step|fail)
 all_goals (try exact AS)
 all_goals (try (have hF:False:=(hB rfl);cases hF))
 repeat' (first
  | refine X1 ?_|refine YJ 77 ?_|refine ju 78 ?_|refine YJ 79 ?_|refine AG ?_;go_step|fail)
 have hv2:=HT2.out _ (hS.sl (a:=ao) AM)
 have hE9:=hS.1
 clear hS hv HEQ HT2
 obtain ⟨A2,hA2⟩:∃x,cutAt ao co K 64=x:=⟨_,rfl⟩
 obtain ⟨n2,hn2⟩:∃x,n3-K=x:=⟨_,rfl⟩
 rw [hA2,hn2] at hv2
 rw [hA2,hn2]
 clear hA2
 have hn64:n2≤128:=by omega
 have hS:=St.start w
 go_loopg [80] n2 (fun gk kv w'=>∃k:Nat,gk+k=n2∧kv= .int .i64 k∧St w w' [])
 case atStart=>exact ⟨0,rfl,rfl,hS⟩
 case round=>
  clear hS
  obtain ⟨k,hk,rfl,hS⟩:=hrel
  by_cases hlt:k<n2
  ·have hsg:=AD (Le hlt 0)
   repeat' (first
    | refine X2 ?_|refine bR 82 ?_;intro b82 o82 hl82 hc82;go_step|(refine AQ 85 ?_);(refine Aq AA (V.build (vs:=[]) rfl (YR)) ?_;go_step)|(with_reducible refine Ak _ (.binOp .neq 26 _ _ _) ?_);(refine Af _ (V.neqA fJ rfl rfl (by (repeat (first|assumption|exact Ae.rep|apply Ae.set|((with_reducible show Ae (_::_) _);exact rfl)))) (by (repeat (first|assumption|exact Ae.rep|apply Ae.set|((with_reducible show Ae (_::_) _);exact rfl))))) AA ?_;go_step)|refine Xw ?_|refine Kk 15 ?_;clear hS;intro g15 w hS|refine Ft ?_;clear hS;intro w hS|refine AG ?_;go_step|fail)
   all_goals (try exact AS)
   repeat' (first
    | refine X1 ?_|refine Ns 87 ?_|refine AG ?_;go_step|fail)
   go_roundg (gk-1)
   case measure=>omega
   case rel=>exact ⟨k+1,by omega,by go_num,hS.sub AV⟩
  obtain rfl:k=n2:=by omega
  repeat' (first
   | refine X8 ?_|refine X4 81 ?_|refine AG ?_;go_step|fail)
  all_goals (try exact AS)
  repeat' (first
   | refine AG ?_;go_step|fail)
  go_ret
  exact ⟨rfl,hE9.trans hS.1⟩
def Cp:Array Value:=#[.slice none 0 0, .int .i64 0, .int .i64 0, .agg #[.int .i64 0, .int .i64 0, .int .i64 0, .int .i64 0, .int .i64 0, .int .i64 0, .int .i64 0, .int .i64 0, .int .i64 0, .int .i64 0, .int .i64 0, .int .i64 0, .int .i64 0, .int .i64 0, .int .i64 0, .int .i64 0, .int .i64 0, .int .i64 0, .int .i64 0, .int .i64 0, .int .i64 0, .int .i64 0, .int .i64 0, .int .i64 0, .int .i64 0, .int .i64 0, .int .i64 0, .int .i64 0, .int .i64 0, .int .i64 0, .int .i64 0, .int .i64 0, .int .i64 0, .int .i64 0, .int .i64 0, .int .i64 0, .int .i64 0, .int .i64 0, .int .i64 0, .int .i64 0, .int .i64 0, .int .i64 0, .int .i64 0, .int .i64 0, .int .i64 0, .int .i64 0, .int .i64 0, .int .i64 0, .int .i64 0, .int .i64 0, .int .i64 0, .int .i64 0, .int .i64 0, .int .i64 0, .int .i64 0, .int .i64 0, .int .i64 0, .int .i64 0, .int .i64 0, .int .i64 0, .int .i64 0, .int .i64 0, .int .i64 0, .int .i64 0]]
theorem Lr:ownKnob Tryz.prog.godebug=none:=by kernel_rfl
theorem Ci:laidOutB Tryz.prog=true:=by kernel_rfl
theorem Lq(os:Os)(args:Array Value):laidMetH Tryz.prog Rows.frameAloneRow.laid ((World.laidAll Tryz.prog os Rows.frameAloneRow.laid).forCall (fun _ _=>0) ⟨#[],args,[]⟩).memory:=by
 rw [MakeChecks.laidMetH_plain _ _ _ AA];exact laidMet_laidAll _ AA AA
theorem J1(os:Os){H:Type}(enc:TypeId×Value→H):∃places,DataW.whole enc Tryz.prog ((World.laidAll Tryz.prog os Rows.frameAloneRow.laid).forCall (fun _ _=>0) ⟨#[],Cp,[]⟩).memory Tryz.f7.params.toList Rows.frameAloneSpec.vars false (Cp:Array Value).toList 8=some ([.nil, .lit (.int .i64 0), .lit (.int .i64 0), .agg [.lit (.int .i64 0), .lit (.int .i64 0), .lit (.int .i64 0), .lit (.int .i64 0), .lit (.int .i64 0), .lit (.int .i64 0), .lit (.int .i64 0), .lit (.int .i64 0), .lit (.int .i64 0), .lit (.int .i64 0), .lit (.int .i64 0), .lit (.int .i64 0), .lit (.int .i64 0), .lit (.int .i64 0), .lit (.int .i64 0), .lit (.int .i64 0), .lit (.int .i64 0), .lit (.int .i64 0), .lit (.int .i64 0), .lit (.int .i64 0), .lit (.int .i64 0), .lit (.int .i64 0), .lit (.int .i64 0), .lit (.int .i64 0), .lit (.int .i64 0), .lit (.int .i64 0), .lit (.int .i64 0), .lit (.int .i64 0), .lit (.int .i64 0), .lit (.int .i64 0), .lit (.int .i64 0), .lit (.int .i64 0), .lit (.int .i64 0), .lit (.int .i64 0), .lit (.int .i64 0), .lit (.int .i64 0), .lit (.int .i64 0), .lit (.int .i64 0), .lit (.int .i64 0), .lit (.int .i64 0), .lit (.int .i64 0), .lit (.int .i64 0), .lit (.int .i64 0), .lit (.int .i64 0), .lit (.int .i64 0), .lit (.int .i64 0), .lit (.int .i64 0), .lit (.int .i64 0), .lit (.int .i64 0), .lit (.int .i64 0), .lit (.int .i64 0), .lit (.int .i64 0), .lit (.int .i64 0), .lit (.int .i64 0), .lit (.int .i64 0), .lit (.int .i64 0), .lit (.int .i64 0), .lit (.int .i64 0), .lit (.int .i64 0), .lit (.int .i64 0), .lit (.int .i64 0), .lit (.int .i64 0), .lit (.int .i64 0), .lit (.int .i64 0)]],[],places):=
 ⟨[],by kernel_rfl⟩
theorem I1(os:Os)(started:os.Started)(H:Type)(enc:TypeId×Value→H)(F:Stop.Interp):
 ReturnsInHanded {} Tryz.checked os 7 .any ((OpenSpec.ofChange Rows.frameAloneSpec).preRow enc Tryz.prog Tryz.f7 Rows.frameAloneRow.domain false Rows.frameAloneRow.laid) (((OpenSpec.ofChange Rows.frameAloneSpec).at F).post enc Tryz.prog Tryz.f7 false true false false):=by
 obtain ⟨places,hx⟩:=J1 os enc
 have hok:Input.okWideB Tryz.prog ((World.laidAll Tryz.prog os Rows.frameAloneRow.laid).forCall (fun _ _=>0) ⟨#[],Cp,[]⟩) 7 ⟨#[],Cp,[]⟩=true:=by kernel_rfl
 refine returnsInHanded_of_row (C:=Tryz.checked) (s:=OpenSpec.ofChange Rows.frameAloneSpec) Lr started AA Tryz.func7
  ⟨(World.laidAll Tryz.prog os Rows.frameAloneRow.laid),fun _ _=>0,⟨#[],Cp,[]⟩,World.laidAll_os _ _ _,World.shaped_of_ZipB AA AA,(Input.okWide_of_okWideB (base:=0) hok).1,(Input.okWide_of_okWideB hok).2,
   OpenSpec.preRow_of_cond 8 hx AA (fun k hk=>by cases hk) AA (Lq os _),by
   simp only [Assume.holds]
   exact ⟨by simp,by simp,by simp,by simp,by simp⟩⟩ ?_
 intro W base args ds gs before hval0 hW _ hk _ hL hsh _
 have hval:∀(j:Nat) t v,Tryz.f7.params[j]? =some t→args[j]? =some v→Value.okWide Tryz.prog W .any base t v:=hval0
 have hW':=hW
 obtain ⟨p,q,hA0,hV,rfl,hfz,hnd⟩:=hW
 have hA:DataW.TrodAll enc Tryz.prog W 0 (fun _=>true) true Tryz.f7.params.toList args.toList ds p:=hA0
 rw [Tryz.params7] at hA hval
 obtain ⟨v0,vs0,d0,ds0,p0,q0,hargs,rfl,rfl,h0,r0⟩:=trodAll_cons hA
 obtain ⟨v1,vs1,d1,ds1,p1,q1,rfl,rfl,rfl,h1,r1⟩:=trodAll_cons r0
 obtain ⟨v2,vs2,d2,ds2,p2,q2,rfl,rfl,rfl,h2,r2⟩:=trodAll_cons r1
 obtain ⟨v3,vs3,d3,ds3,p3,q3,rfl,rfl,rfl,h3,r3⟩:=trodAll_cons r2
 obtain ⟨rfl,rfl,rfl⟩:=trodAll_nil r3
 obtain rfl:args=#[v0,v1,v2,v3]:=by cases args;simp_all
 obtain ⟨rfl,rfl⟩:=trodVars_none hV
 have lt0:∀x∈p0,x.block<W.heap.size:=by obtain ⟨m,hm⟩:=h0;exact DataW.trod_lt m _ _ _ hm
 have lt1:∀x∈p1,x.block<W.heap.size:=by obtain ⟨m,hm⟩:=h1;exact DataW.trod_lt m _ _ _ hm
 have lt2:∀x∈p2,x.block<W.heap.size:=by obtain ⟨m,hm⟩:=h2;exact DataW.trod_lt m _ _ _ hm
 have lt3:∀x∈p3,x.block<W.heap.size:=by obtain ⟨m,hm⟩:=h3;exact DataW.trod_lt m _ _ _ hm
 refine (LB W (hval 0 30 v0 rfl rfl) h0 lt0 (hval 1 3 v1 rfl rfl) h1 lt1 (hval 2 3 v2 rfl rfl) h2 lt2 (hval 3 26 v3 rfl rfl) h3 lt3 hsh).mono fun e W' ⟨he,bel⟩=>?_
 subst he
 exact ⟨_,rfl,_,_,_,[],_,[],hW',trodAll_mk1 (shut_bool Tryz.underlying4 _),(trodAll_cons_mk (Below.trod Ci AA (of_decide_eq_true AA) h0 bel lt0) (trodAll_cons_mk (Below.trod Ci AA (of_decide_eq_true AA) h1 bel lt1) (trodAll_cons_mk (Below.trod Ci AA (of_decide_eq_true AA) h2 bel lt2) (trodAll_cons_mk (Below.trod Ci AA (of_decide_eq_true AA) h3 bel lt3) trodAll_mk0)))),rfl,bel.frame _,fun h=>by cases h⟩
theorem LA:Rows.FrameAloneSaid:=
 OpenClaim.holds_of_cond 7 Tryz.f7 rfl rfl rfl rfl rfl rfl rfl ⟨rfl,rfl,rfl,rfl,rfl⟩ rfl rfl rfl rfl rfl AA Tryz.func7 AA
  (of_decide_eq_true AA) (by unfold Func.isWrapper;rw [if_neg (by decide+kernel)];exact ⟨rfl,rfl⟩)
  (fun os started H enc _ F=>by rw [OpenClaim.pre_eq_preRow];exact I1 os started H enc F)
theorem IX(f:FuncId)(fn:Func)(hf:Tryz.pinned.checked.prog.funcNamed "mezzotint/mezzotintkeep.FrameAlone" =some f)(hfn:Tryz.pinned.checked.prog.funcs[f]? =some fn):
 false=Tryz.pinned.checked.prog.looks []∧∀(j:Nat) t,fn.params[j]? =some t→Tryz.pinned.checked.prog.wantsStandIn t=false:=by
 obtain rfl:f=7:=Option.some.inj ((show Tryz.prog.funcNamed "mezzotint/mezzotintkeep.FrameAlone" =some 7 by kernel_rfl).symm.trans hf) |>.symm
 obtain rfl:fn=Tryz.f7:=(Option.some.inj (Tryz.func7.symm.trans hfn)).symm
 refine ⟨by kernel_rfl,fun j t ht=>?_⟩
 rw [Tryz.params7] at ht
 have hm:t∈([30,3,3,26]:List Nat):=by simpa using Array.mem_of_getElem? ht
 have hall:(([30,3,3,26]:List Nat).all fun u=>!Tryz.prog.wantsStandIn u)=true:=by kernel_rfl
 exact (show Tryz.prog.wantsStandIn t=false by simpa using List.all_eq_true.1 hall t hm)
theorem FrameAlone_proved:Rows.FrameAloneCardSaid:=
 Claim7.holds_tied_plain_at .later [] _ _ _ _ LA (fun _ h=>by cases h) AA (fun _ h=>by cases h) frameAlone_row_tie rfl ⟨rfl,rfl⟩ AA rfl IX AA
end Go.Proofs.YtohacgmhmbijmaaGreatDoor
