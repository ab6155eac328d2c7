/- The law FrameFlat: its walk, and the statement. -/
import Derived.Test.YtohacgmhmbijmaaGreatDoorBaseNZ2
import Derived.Test.YtohacgmhmbijmaaGreatDoorBaseNZ3
import Derived.Test.YtohacgmhmbijmaaGreatDoorBaseNZ4
import Derived.Test.YtohacgmhmbijmaaGreatDoorBaseNZ5
import Derived.Test.YtohacgmhmbijmaaGreatDoorBaseNZ11
import Derived.Test.YtohacgmhmbijmaaGreatDoorBaseNZ18
import Derived.Test.YtohacgmhmbijmaaGreatDoorBaseNZ19
import Derived.Test.YtohacgmhmbijmaaGreatDoorRows
import Derived.Test.YtohacgmhmbijmaaGreatDoorCards
import Derived.Test.YtohacgmhmbijmaaGreatDoorTie
import Derived.Deep.DeepHandedRow
import Derived.Lay
import Derived.SevenTiedAt
namespace Go.Proofs.YtohacgmhmbijmaaGreatDoor
attribute [local irreducible] Region.wanted
open Go.ChangeShapes Go.WideShapes Go.ChangeAt Go.RowKit
set_option linter.unusedVariables false
set_option maxRecDepth 100000
set_option maxHeartbeats 8000000
theorem WW(n:Int)(M i:Nat)(h:i<M):(List.replicate i n++List.replicate (M-i) 0).set i n=List.replicate (i+1) n++List.replicate (M-(i+1)) 0:=by
 obtain ⟨k,rfl⟩:∃k,M=i+1+k:=⟨M-(i+1),by omega⟩
 rw [List.set_append_right _ _ (by rw [List.length_replicate];exact Nat.le_refl _),List.length_replicate,Nat.sub_self,show i+1+k-i=k+1 by omega,show i+1+k-(i+1)=k by omega,List.replicate_succ (n:=k),List.set_cons_zero,List.replicate_succ',List.append_assoc]
 rfl
theorem Lt{H:Type}{enc:TypeId×Value→H}{d0 d1 d2 d3:DataW H}{p0 p1 p2 p3:List MemPlace}{v0 v1 v2 v3:Value}{base:Nat}(W:World)
 (o0:Value.okWide Tryz.prog W .any base 3 v0) (h0:DataW.Trod enc Tryz.prog W 0 (fun _=>true) true 3 v0 d0 p0) (lt0:∀x∈p0,x.block<W.heap.size)
 (o1:Value.okWide Tryz.prog W .any base 3 v1) (h1:DataW.Trod enc Tryz.prog W 0 (fun _=>true) true 3 v1 d1 p1) (lt1:∀x∈p1,x.block<W.heap.size)
 (o2:Value.okWide Tryz.prog W .any base 3 v2) (h2:DataW.Trod enc Tryz.prog W 0 (fun _=>true) true 3 v2 d2 p2) (lt2:∀x∈p2,x.block<W.heap.size)
 (o3:Value.okWide Tryz.prog W .any base 3 v3) (h3:DataW.Trod enc Tryz.prog W 0 (fun _=>true) true 3 v3 d3 p3) (lt3:∀x∈p3,x.block<W.heap.size)
 (hsh:W.ShapedOpen Tryz.prog):
 Calls Tryz.prog 5 #[v0,v1,v2,v3] W fun e w'=>e= .returned (.bool true)∧Ah W w':=by
 obtain ⟨z0,rfl,_,_⟩:=Dw Tryz.underlying3 o0 h0
 obtain ⟨z1,rfl,_,_⟩:=Dw Tryz.underlying3 o1 h1
 obtain ⟨z2,rfl,_,_⟩:=Dw Tryz.underlying3 o2 h2
 obtain ⟨z3,rfl,_,_⟩:=Dw Tryz.underlying3 o3 h3
 have hml:∃m,W.cell? ⟨0,0,none⟩=some (.int .i64 m):=Tryz.laysM185.s1_3 W hsh
 clear o0 h0 lt0 o1 h1 lt1 o2 h2 lt2 o3 h3 lt3 hsh
 obtain ⟨m,hm⟩:∃m,z1%64+1=m:=⟨_,rfl⟩
 obtain ⟨h,hh⟩:∃h,z2%64+1=h:=⟨_,rfl⟩
 have m0:1≤m∧m≤64:=by omega
 have m1:1≤h∧h≤64:=by omega
 obtain ⟨k0,k1⟩:=Dv m h 64 64 (by omega) (by omega)
 have k2:0<m*h:=Int.mul_pos (by omega) (by omega)
 obtain ⟨M,hM⟩:∃M:Nat,m*h=(M:Int):=⟨(m*h).toNat,by omega⟩
 have hMs:M≤4096:=by omega
 have hMp:0<M:=by omega
 obtain ⟨n,hn⟩:∃n,z0%256=n:=⟨_,rfl⟩
 obtain ⟨c0,hc0⟩:∃c,z3%255=c:=⟨_,rfl⟩
 have hn1:0≤n∧n≤255:=by omega
 obtain ⟨c,hc⟩:∃c,c0+1=c:=⟨_,rfl⟩
 have hc1:1≤c∧c≤255:=by omega
 have hS:=St.start W
 have HM:=AD hm
 have HH:=AD hh
 have HML:=AD hml
 have HMM:=AD hM
 have HN0:=AD hn
 have HC0:=AD hc0
 have hcc:c0+1=c:=hc
 clear hm hh hml hn hc0 hc
 go_enter Tryz.func5,Tryz.ntmps5
 repeat' (first
  | (refine AQ 30 ?_);(refine Af (.int _ (c)) (V.as (V.addI rfl rfl (by omega)) (by omega)) (by kernel_rfl) ?_;go_step)|refine gm 33 ?_|(refine Am 15 ?_);refine An AA Tryz.call15 (GR _ (HML.out.imp fun m h=>hS.1.cell h)) (Fq hS ?_);clear hS;intro w hS;go_step|(refine Am 25 ?_);refine An AA Tryz.call25 (H6 _ z1 z2) ?_;rintro e w' ⟨rfl,rfl⟩;rw [HM.out,HH.out];refine Ab ?_;go_step|(refine AQ 27 ?_);refine AL (f:=28) Tryz.call28 AA ?_;refine ⟨_,(Cu z0 256 _ (by omega) (by omega)),?_⟩;rintro e w' ⟨rfl,rfl⟩;rw [HN0.out];refine Ab ?_;go_step|(refine AQ 29 ?_);refine AL (f:=28) Tryz.call28 AA ?_;refine ⟨_,(Cu z3 255 _ (by omega) (by omega)),?_⟩;rintro e w' ⟨rfl,rfl⟩;rw [HC0.out];refine Ab ?_;go_step|refine X0 ?_|refine T7 19 ?_|refine X3 24 ?_|refine X3 25 ?_|refine LR 36 ?_|refine bw 34 ?_;clear hS;intro g34 w hS|refine AG ?_;go_step|fail)
 all_goals (try exact AS)
 go_loopg [37] M (fun gk kv w=>∃i:Nat,gk+i=M∧kv= .int .i64 i∧St W w [own 3 1 (some ⟨g34,0,none⟩) M M ((List.replicate i n++List.replicate (M-i) 0).map (Value.int .i64))])
 case atStart=>exact ⟨0,rfl,rfl,by rw [show List.replicate 0 n++List.replicate (M-0) (0:Int)=List.replicate (M*1) 0 by simp];exact hS.sub AV⟩
 case round=>
  clear hS
  obtain ⟨i,hi,rfl,hS⟩:=hrel
  by_cases hlt:i<M
  ·have HF:=AD (WW n M i hlt)
   repeat' (first
    | refine X0 ?_|refine X4 38 ?_|refine Vu 43 ?_|refine Ns 44 ?_|refine Vg ?_;clear hS;intro w hS|refine AG ?_;go_step|fail)
   all_goals (try exact AS)
   go_roundg (gk-1)
   case measure=>omega
   case rel=>exact ⟨i+1,by omega,by go_num,by rw [←HF.out];exact hS.sub AV⟩
  obtain rfl:M=i:=by omega
  rw [show List.replicate M n++List.replicate (M-M) (0:Int)=List.replicate M n by rw [Nat.sub_self];simp] at hS
  repeat' (first
   | refine X1 ?_|refine X4 38 ?_|refine AG ?_;go_step|fail)
  all_goals (try exact AS)
  obtain ⟨v,hv,hv0,hv1⟩:=Zp (M:=M) (n:=n) (c:=c) ⟨m0.1,m0.2,m1.1,m1.2⟩ HMM.out.symm hn1 hc1
  have hPi:∀i,0≤AF (List.replicate M n) i∧AF (List.replicate M n) i≤255:=fun i=>by
   by_cases hi:i<M
   ·rw [BS _ _ _ hi];exact hn1
   rw [Bp _ _ (by rw [List.length_replicate];omega)];omega
  have hfz:Gg m h (List.replicate 64 c) [List.replicate M n]=0:=by rw [Li _ M m h _ m0 m1 HMM.out List.length_replicate hPi,if_pos (TO hc1)]
  have hpz:=Id (ev:=0) List.length_replicate (by omega) hfz
  have hC:∀w g g9 c9,A8 w (some ⟨g,0,none⟩) 1 (List.replicate 1 ⟨g9,c9,List.replicate M n⟩)→Calls Tryz.prog 17 #[.agg #[.int .i64 m, .int .i64 h, .slice (some ⟨g,0,none⟩) 1 1], .agg (iv (List.replicate 64 c)), .int .i64 0] w (Dp w (DM m h (List.replicate 64 c) [List.replicate M n] (0:Nat)) m h (List.replicate 64 c) 1 (0:Nat) (FX m h (List.replicate 64 c) [List.replicate M n]) (1*Aa m h)):=
   fun w g g9 c9 hP=>LX w m h (by omega) (some ⟨g,0,none⟩) 1 _ (by show 1≤9223372036854775807;omega) hP _ List.length_replicate 0 (by omega)
  have hD:=O7 (ev:=0) (L:=[List.replicate M n]) List.length_replicate (by omega) hfz
  rw [show [List.replicate M n].length=1 from rfl,PP List.length_replicate,hv] at hD
  rw [hpz] at hC
  obtain ⟨B,hBe⟩:∃B,FX m h (List.replicate 64 c) [List.replicate M n]=B:=⟨_,rfl⟩
  obtain ⟨nb,hnb⟩:∃nb,1*Aa m h=nb:=⟨_,rfl⟩
  rw [hBe,hnb] at hC hD
  have HC:=AD fun w g g9 c9 hP=>(hC w g g9 c9 hP).mono fun e w' hh=>hh.out
  have HD:=AD hD
  clear hC hD hv hBe hnb hpz hfz hPi
  repeat' (first
   | (refine Am 27 ?_);refine An AA Tryz.call27 (F4 _ c) (Fq hS ?_);clear hS;intro w hS;go_step|(refine Am 17 ?_);refine An AA Tryz.call17 (HC.out _ g49 (some ⟨g34,0,none⟩) M (Cr (cs:=[.slice (some ⟨g34,0,none⟩) M M]) hS AM rfl List.length_replicate (by decide) (hS.sl AM))) ?_;rintro e w ⟨C1,S1,C2,S2,D,a1,a2,bd,n1,k1,n2,k2,nd,kd,hen,rfl,hS2⟩;replace hS:=hS.call hS2;clear hS2;simp only [List.cons_append,List.nil_append] at hS;have hC1:=hen.l1;have hC2:=hen.l2;have HEN:=AD hen;clear hen;refine Ab ?_;go_step|(refine Am 21 ?_);refine An AA Tryz.call21 (HD.out _ C1 S1 C2 S2 D a1 a2 bd n1 k1 n2 k2 nd kd (HML.out.imp fun m h=>hS.1.cell h) HEN.out (hS.sl AM) (hS.sl AM) (hS.sl AM)) ?_;rintro e w ⟨a5,c5,R5,hR5,rfl,hP9⟩;replace hS:=hS.call hP9;clear hP9;simp only [List.cons_append,List.nil_append] at hS;have HR5:=AD hR5;clear hR5;refine Ab ?_;go_step|refine X0 ?_|refine YG 50 ?_|refine X3 54 ?_|refine X3 55 ?_|refine X3 59 ?_|refine X3 60 ?_|refine eh 49 ?_;clear hS;intro g49 w hS|refine XX 11 ?_;clear hS;intro g11 w hS|refine SP ?_;clear hS;intro w hS|refine SD ?_|refine Tz 13 ?_;clear hS;intro g13 w hS|refine T2 ?_;clear hS;intro w hS|refine AG ?_;go_step|fail)
  have hPI:=A8.of (a:=a5) (c:=c5) (R:=R5) hS AM AM
  have h12:w.cell? ⟨g13,2,none⟩=some (.slice a5 R5.length c5):=Fv (g:=g13) (k:=2) hS AM rfl
  have hE9:=hS.1
  obtain ⟨b0,u0,rfl⟩:=Z6 HR5.out
  obtain ⟨bb,off,rfl,hcl⟩:=DV hPI.sl (by show 0<1;omega)
  have h12':w.cell? ⟨g13,2,none⟩=some (.slice (some ⟨bb,off,none⟩) 1 c5):=h12
  have x0:w.cell? ⟨bb,off,none⟩=some (.slice b0 M u0):=by have:=hcl 0 _ rfl;rw [Rw.val,List.length_replicate] at this;exact this
  have hvx:Sl w 1 (.slice b0 M u0) M ((List.replicate M v).map (Value.int .i64)):=by have:=hPI.row ⟨b0,u0,List.replicate M v⟩ (by simp);rw [Rw.val] at this;dsimp only at this;rw [List.length_replicate] at this;exact this
  clear hS hPI hcl h12 HEN HD HC hC1 hC2
  obtain ⟨W1,hW1⟩:∃z,z=w:=⟨w,rfl⟩
  subst hW1
  have hS:=St.start W1
  repeat' (first
   | refine X1 ?_|refine Gj ?_|refine X9 62 ?_ ?_<;>intro hB<;>(try exact AS)<;>go_step|refine X9 65 ?_ ?_<;>intro hB<;>(try exact AS)<;>go_step|refine X9 71 ?_ ?_<;>intro hB<;>(try exact AS)<;>go_step|refine Xa 68 ?_|refine YC 70 ?_|refine Xa 74 ?_|refine bU 76 ?_|refine LR 78 ?_|refine LR 80 ?_|refine Gq 81 ?_|refine cX ?_|refine SC ?_|refine AG ?_;go_step|fail)
  all_goals (try exact AS)
  all_goals (try (have hF:False:=(hB rfl);cases hF))
  repeat' (first
   | refine X1 ?_|refine Xa 83 ?_|refine bU 85 ?_|refine LR 87 ?_|refine cX ?_|refine SC ?_|refine AG ?_;go_step|fail)
  have hv00:AF (List.replicate M v) 0=v:=BS _ _ _ hMp
  go_loopg [88] M (fun gk kv w=>∃k:Nat,gk+k=M∧kv= .int .i64 k∧St W1 w [])
  case atStart=>exact ⟨0,rfl,rfl,hS⟩
  case round=>
   clear hS
   obtain ⟨k,hk,rfl,hS⟩:=hrel
   by_cases hlt2:k<M
   ·have hvk:AF (List.replicate M v) k=v:=BS _ _ _ hlt2
    repeat' (first
     | refine X0 ?_|refine X4 89 ?_|refine cT 90 ?_;intro b90 o90 hc90;go_step|refine Xa 93 ?_|refine bU 95 ?_|refine jc 97 ?_;intro b97 o97 hc97;go_step|refine Gq 99 ?_|refine Ns 100 ?_|refine SQ ?_|refine cX ?_|refine SC ?_|refine AG ?_;go_step|fail)
    all_goals (try exact AS)
    go_roundg (gk-1)
    case measure=>omega
    case rel=>exact ⟨k+1,by omega,by go_num,hS.sub AV⟩
   obtain rfl:k=M:=by omega
   repeat' (first
    | refine X4 89 ?_|refine AG ?_;go_step|fail)
   all_goals (try exact AS)
   repeat' (first
    | refine X0 ?_|refine Xa 101 ?_|refine bU 103 ?_|refine jc 105 ?_;intro b105 o105 hc105;go_step|(refine AQ 108 ?_);(refine Aq AA (V.subI rfl rfl (by omega)) ?_;go_step)|refine cS 111 ?_|refine cR 112 ?_|(refine AQ 114 ?_);(refine Aq AA (V.quo rfl rfl (by omega) (by omega)) ?_;go_step)|refine Ns 115 ?_|refine Vr 116 ?_|refine cX ?_|refine SC ?_|refine SQ ?_|refine AG ?_;go_step|fail)
   all_goals (try exact AS)
   go_ret
   exact ⟨DF (decide_eq_true (by omega)),hE9.trans hS.1⟩
def C9:Array Value:=#[.int .i64 0, .int .i64 0, .int .i64 0, .int .i64 0]
theorem Nj:ownKnob Tryz.prog.godebug=none:=by kernel_rfl
theorem Cz:laidOutB Tryz.prog=true:=by kernel_rfl
theorem Ni(os:Os)(args:Array Value):laidMetH Tryz.prog Rows.frameFlatRow.laid ((World.laidAll Tryz.prog os Rows.frameFlatRow.laid).forCall (fun _ _=>0) ⟨#[],args,[]⟩).memory:=by
 rw [MakeChecks.laidMetH_plain _ _ _ AA];exact laidMet_laidAll _ AA AA
theorem LC(os:Os){H:Type}(enc:TypeId×Value→H):∃places,DataW.whole enc Tryz.prog ((World.laidAll Tryz.prog os Rows.frameFlatRow.laid).forCall (fun _ _=>0) ⟨#[],C9,[]⟩).memory Tryz.f5.params.toList Rows.frameFlatSpec.vars false (C9:Array Value).toList 8=some ([.lit (.int .i64 0), .lit (.int .i64 0), .lit (.int .i64 0), .lit (.int .i64 0)],[],places):=
 ⟨[],by kernel_rfl⟩
theorem J2(os:Os)(started:os.Started)(H:Type)(enc:TypeId×Value→H)(F:Stop.Interp):
 ReturnsInHanded {} Tryz.checked os 5 .any ((OpenSpec.ofChange Rows.frameFlatSpec).preRow enc Tryz.prog Tryz.f5 Rows.frameFlatRow.domain false Rows.frameFlatRow.laid) (((OpenSpec.ofChange Rows.frameFlatSpec).at F).post enc Tryz.prog Tryz.f5 false true false false):=by
 obtain ⟨places,hx⟩:=LC os enc
 have hok:Input.okWideB Tryz.prog ((World.laidAll Tryz.prog os Rows.frameFlatRow.laid).forCall (fun _ _=>0) ⟨#[],C9,[]⟩) 5 ⟨#[],C9,[]⟩=true:=by kernel_rfl
 refine returnsInHanded_of_row (C:=Tryz.checked) (s:=OpenSpec.ofChange Rows.frameFlatSpec) Nj started AA Tryz.func5
  ⟨(World.laidAll Tryz.prog os Rows.frameFlatRow.laid),fun _ _=>0,⟨#[],C9,[]⟩,World.laidAll_os _ _ _,World.shaped_of_ZipB AA AA,(Input.okWide_of_okWideB (base:=0) hok).1,(Input.okWide_of_okWideB hok).2,
   OpenSpec.preRow_of_cond 8 hx AA (fun k hk=>by cases hk) AA (Ni os _),by
   simp only [Assume.holds]
   exact ⟨by simp,by simp,by simp,by simp,by simp⟩⟩ ?_
 intro W base args ds gs before hval0 hW _ hk _ hL hsh _
 have hval:∀(j:Nat) t v,Tryz.f5.params[j]? =some t→args[j]? =some v→Value.okWide Tryz.prog W .any base t v:=hval0
 have hW':=hW
 obtain ⟨p,q,hA0,hV,rfl,hfz,hnd⟩:=hW
 have hA:DataW.TrodAll enc Tryz.prog W 0 (fun _=>true) true Tryz.f5.params.toList args.toList ds p:=hA0
 rw [Tryz.params5] at hA hval
 obtain ⟨v0,vs0,d0,ds0,p0,q0,hargs,rfl,rfl,h0,r0⟩:=trodAll_cons hA
 obtain ⟨v1,vs1,d1,ds1,p1,q1,rfl,rfl,rfl,h1,r1⟩:=trodAll_cons r0
 obtain ⟨v2,vs2,d2,ds2,p2,q2,rfl,rfl,rfl,h2,r2⟩:=trodAll_cons r1
 obtain ⟨v3,vs3,d3,ds3,p3,q3,rfl,rfl,rfl,h3,r3⟩:=trodAll_cons r2
 obtain ⟨rfl,rfl,rfl⟩:=trodAll_nil r3
 obtain rfl:args=#[v0,v1,v2,v3]:=by cases args;simp_all
 obtain ⟨rfl,rfl⟩:=trodVars_none hV
 have lt0:∀x∈p0,x.block<W.heap.size:=by obtain ⟨m,hm⟩:=h0;exact DataW.trod_lt m _ _ _ hm
 have lt1:∀x∈p1,x.block<W.heap.size:=by obtain ⟨m,hm⟩:=h1;exact DataW.trod_lt m _ _ _ hm
 have lt2:∀x∈p2,x.block<W.heap.size:=by obtain ⟨m,hm⟩:=h2;exact DataW.trod_lt m _ _ _ hm
 have lt3:∀x∈p3,x.block<W.heap.size:=by obtain ⟨m,hm⟩:=h3;exact DataW.trod_lt m _ _ _ hm
 refine (Lt W (hval 0 3 v0 rfl rfl) h0 lt0 (hval 1 3 v1 rfl rfl) h1 lt1 (hval 2 3 v2 rfl rfl) h2 lt2 (hval 3 3 v3 rfl rfl) h3 lt3 hsh).mono fun e W' ⟨he,bel⟩=>?_
 subst he
 exact ⟨_,rfl,_,_,_,[],_,[],hW',trodAll_mk1 (shut_bool Tryz.underlying4 _),(trodAll_cons_mk (Below.trod Cz AA (of_decide_eq_true AA) h0 bel lt0) (trodAll_cons_mk (Below.trod Cz AA (of_decide_eq_true AA) h1 bel lt1) (trodAll_cons_mk (Below.trod Cz AA (of_decide_eq_true AA) h2 bel lt2) (trodAll_cons_mk (Below.trod Cz AA (of_decide_eq_true AA) h3 bel lt3) trodAll_mk0)))),rfl,bel.frame _,fun h=>by cases h⟩
theorem Ls:Rows.FrameFlatSaid:=
 OpenClaim.holds_of_cond 5 Tryz.f5 rfl rfl rfl rfl rfl rfl rfl ⟨rfl,rfl,rfl,rfl,rfl⟩ rfl rfl rfl rfl rfl AA Tryz.func5 AA
  (of_decide_eq_true AA) (by unfold Func.isWrapper;rw [if_neg (by decide+kernel)];exact ⟨rfl,rfl⟩)
  (fun os started H enc _ F=>by rw [OpenClaim.pre_eq_preRow];exact J2 os started H enc F)
theorem I2(f:FuncId)(fn:Func)(hf:Tryz.pinned.checked.prog.funcNamed "mezzotint/mezzotintkeep.FrameFlat" =some f)(hfn:Tryz.pinned.checked.prog.funcs[f]? =some fn):
 false=Tryz.pinned.checked.prog.looks []∧∀(j:Nat) t,fn.params[j]? =some t→Tryz.pinned.checked.prog.wantsStandIn t=false:=by
 obtain rfl:f=5:=Option.some.inj ((show Tryz.prog.funcNamed "mezzotint/mezzotintkeep.FrameFlat" =some 5 by kernel_rfl).symm.trans hf) |>.symm
 obtain rfl:fn=Tryz.f5:=(Option.some.inj (Tryz.func5.symm.trans hfn)).symm
 refine ⟨by kernel_rfl,fun j t ht=>?_⟩
 rw [Tryz.params5] at ht
 have hm:t∈([3,3,3,3]:List Nat):=by simpa using Array.mem_of_getElem? ht
 have hall:(([3,3,3,3]:List Nat).all fun u=>!Tryz.prog.wantsStandIn u)=true:=by kernel_rfl
 exact (show Tryz.prog.wantsStandIn t=false by simpa using List.all_eq_true.1 hall t hm)
theorem FrameFlat_proved:Rows.FrameFlatCardSaid:=
 Claim7.holds_tied_plain_at .later [] _ _ _ _ Ls (fun _ h=>by cases h) AA (fun _ h=>by cases h) frameFlat_row_tie rfl ⟨rfl,rfl⟩ AA rfl I2 AA
end Go.Proofs.YtohacgmhmbijmaaGreatDoor
