/- The law RescueWhole: its walk, and the statement. -/
import Derived.Test.YtohacgmhmbijmaaGreatDoorBaseSZ2
import Derived.Test.YtohacgmhmbijmaaGreatDoorBaseSZ3
import Derived.Test.YtohacgmhmbijmaaGreatDoorBaseSZ4
import Derived.Test.YtohacgmhmbijmaaGreatDoorBaseSZ17
import Derived.Test.YtohacgmhmbijmaaGreatDoorBaseSZ18
import Derived.Test.YtohacgmhmbijmaaGreatDoorBaseSZ19
import Derived.Test.YtohacgmhmbijmaaGreatDoorRows
import Derived.Test.YtohacgmhmbijmaaGreatDoorCards
import Derived.Test.YtohacgmhmbijmaaGreatDoorTie
import Derived.Deep.DeepHandedRow
import Derived.Lay
import Derived.SevenTiedAt
namespace Go.Proofs.YtohacgmhmbijmaaGreatDoor
attribute [local irreducible] Region.wanted
open Go.ChangeShapes Go.WideShapes Go.ChangeAt Go.RowKit
set_option linter.unusedVariables false
set_option maxRecDepth 100000
set_option maxHeartbeats 8000000
theorem QI{H:Type}{enc:TypeId×Value→H}{W:World}{v:Value}{d:DataW H}{p:List MemPlace}{base:Nat}(ho:Value.okWide Tryz.prog W .any base 37 v)(h:DataW.Trod enc Tryz.prog W 0 (fun _=>true) true 37 v d p):
 ∃(f:A8) (a1 a2 ad:Option Addr) (n1 k1 n2 k2 nd kd:Nat),v=fv f (.slice a1 n1 k1) (.slice a2 n2 k2) (.slice ad nd kd)∧Q9 W f a1 a2 ad n1 k1 n2 k2 nd kd:=by
 obtain ⟨cs,rfl⟩:=XY (by rw [Tryz.underlying37]) ho
 obtain ⟨fuel,h⟩:=h
 obtain ⟨f,a1,a2,ad,n1,k1,n2,k2,nd,kd,h1,h2⟩:=Ra h
 refine ⟨f,a1,a2,ad,n1,k1,n2,k2,nd,kd,?_,h2⟩
 unfold fv
 rw [←h1]
 simp [Value.cells]
theorem FM.of_in{W:World}{f:A8}{a1 a2 ad:Option Addr}{n1 k1 n2 k2 nd kd:Nat}(h:Q9 W f a1 a2 ad n1 k1 n2 k2 nd kd):FM W f a1 a2 ad n1 k1 n2 k2 nd kd:=
 ⟨h.quant,h.t1.len,h.t2.len,h.t1.sl,h.t2.sl,Nat.le_trans h.t1.nc h.t1.cm,Nat.le_trans h.t2.nc h.t2.cm,by
  have:=h.dsl
  unfold BV
  rw [List.map_map]
  exact this,Nat.le_trans h.dcap.1 h.dcap.2,h.dlt⟩
def S9:A8:=⟨0,0,0,List.replicate 64 0,List.replicate 16 0,[],List.replicate 16 0,[],0,[]⟩
theorem Wu(W:World):FM W S9 none none none 0 0 0 0 0 0:=
 ⟨List.length_replicate,List.length_replicate,List.length_replicate,Sl.none W 1,Sl.none W 1,by omega,by omega,Sl.none W 1,by omega,fun x hx=>by cases hx⟩
theorem aC:Bo S9=1:=by decide+kernel
theorem Pq:QP S9=1:=by unfold QP;rw [aC];rfl
theorem Ng(f:A8):
 (Ma f≠0∧QP f≠0)∨(Ma f≠0∧QP f=0∧(0<(Kl f).2.2.length∨Ma f=6∨Ma f=4))∨(Ma f=0∧QP f=0∧(Kl f).2.2=[]∧Yw f=Uq f):=by
 by_cases hz:Bo f=0
 ·obtain ⟨l1,l2⟩:=XN f.c1 f.s1 f.c2 f.s2 (BV f) ((f.parts.toNat*Ai f.wide f.high:Nat):Int) f.every
  have e1:Ma f=(O4 f).1:=by unfold Ma;rw [if_pos hz]
  have e2:QP f=(Kl f).1:=by unfold QP;rw [if_pos hz]
  by_cases hp:JG f.c1 f.s1 f.c2 f.s2 (BV f) ((f.parts.toNat*Ai f.wide f.high:Nat):Int) f.every=0
  ·obtain ⟨k1,k2,k3⟩:=l2 hp
   by_cases h0:Ma f=0
   ·have h9:=k2 (by rw [e1] at h0;exact h0)
    refine .inr (.inr ⟨h0,e2.trans k1,?_,?_⟩)
    ·exact congrArg Prod.snd h9
    unfold Yw Uq
    have h8:(Kl f).2.1=(O4 f).2:=congrArg Prod.fst h9
    rw [h8]
   refine .inr (.inl ⟨h0,e2.trans k1,?_⟩)
   have h9:=k3 (by rw [e1] at h0;exact h0)
   rw [e1]
   exact h9
  obtain ⟨k1,k2⟩:=l1 hp
  refine .inl ⟨?_,?_⟩
  ·rw [e1];unfold O4;rw [k1];exact hp
  rw [e2];unfold Kl;rw [k2];exact hp
 refine .inl ⟨?_,?_⟩
 ·unfold Ma;rw [if_neg hz];exact hz
 unfold QP;rw [if_neg hz];exact hz
theorem JM{H:Type}{enc:TypeId×Value→H}{d0:DataW H}{p0:List MemPlace}{v0:Value}{base:Nat}(W:World)
 (o0:Value.okWide Tryz.prog W .any base 37 v0) (h0:DataW.Trod enc Tryz.prog W 0 (fun _=>true) true 37 v0 d0 p0) (lt0:∀x∈p0,x.block<W.heap.size)
 (hsh:W.ShapedOpen Tryz.prog):
 Calls Tryz.prog 9 #[v0] W fun e w'=>e= .returned (.bool true)∧Af W w':=by
 obtain ⟨f,a1,a2,ad,n1,k1,n2,k2,nd,kd,rfl,hF⟩:=QI o0 h0
 have hml:∃m,W.cell? ⟨0,0,none⟩=some (.int .i64 m):=Tryz.laysM185.s1_3 W hsh
 clear o0 h0 lt0 hsh
 have hS:=St.start W
 have HML:=AD hml
 have hFM:=FM.of_in hF
 have HD:=AD fun (w:World)(hx:Af W w)=>Hq w f a1 a2 ad n1 k1 n2 k2 nd kd (hFM.ext hx) (hml.imp fun m h=>hx.cell h)
 have HR:=AD fun (w:World)(hx:Af W w)=>FD w f a1 a2 ad n1 k1 n2 k2 nd kd (hFM.ext hx) (hml.imp fun m h=>hx.cell h)
 have HZ:Hid (∀w,Af W w→Calls Tryz.prog 31 #[gz] w fun e w'=>e= .returned (.tuple #[.agg #[.int .i64 0, .int .i64 0, .slice none 0 0], .slice none 0 0, .int .i64 1])∧Af w w'):=fun w hx=>(FD w S9 none none none 0 0 0 0 0 0 (Wu w) (hml.imp fun m h=>hx.cell h)).mono fun e w' hh=>by
  obtain ⟨h1,h2⟩:=hh.1 (by rw [Pq];decide)
  rw [Pq] at h1
  exact ⟨h1,h2⟩
 have hlaw:=Ng f
 obtain ⟨L,hL⟩:∃L,Uq f=L:=⟨_,rfl⟩
 obtain ⟨L2,hL2⟩:∃L,Yw f=L:=⟨_,rfl⟩
 obtain ⟨E,hE⟩:∃E,Ma f=E:=⟨_,rfl⟩
 obtain ⟨E2,hE2⟩:∃E,QP f=E:=⟨_,rfl⟩
 obtain ⟨bad,hb⟩:∃b,(Kl f).2.2=b:=⟨_,rfl⟩
 rw [hL,hE] at HD
 rw [hL2,hE2,hb] at HR
 rw [hL,hL2,hE,hE2,hb] at hlaw
 have hQ:=hFM.q
 have hC1:=hFM.l1
 have hC2:=hFM.l2
 clear hL hL2 hE hE2 hb hF hFM hml
 obtain ⟨m,h,p,Q,C1,S1,C2,S2,ev,D⟩:=f
 dsimp only at hQ hC1 hC2 HD HR⊢
 show Calls Tryz.prog 9 #[.agg (AF [.val (.int .i64 m), .val (.int .i64 h), .val (.int .i64 p), .ints Q, .ints C1, .val (.slice a1 n1 k1), .ints C2, .val (.slice a2 n2 k2), .val (.int .i64 ev), .val (.slice ad nd kd)]).toArray] _ _
 rcases hlaw with ⟨e1,e2⟩|⟨e1,rfl,e3⟩|⟨rfl,rfl,rfl,rfl⟩
 ·go_enter Tryz.func9,Tryz.ntmps9
  repeat' (first
   | (refine Al 15 ?_);refine Am AA Tryz.call15 (EY _ (HML.out.imp fun m h=>hS.1.cell h)) (EW hS ?_);clear hS;intro w hS;go_step|refine X8 ?_|refine KS ?_|refine Js 1 ?_;clear hS;intro g1 w hS|refine AH ?_;go_step|fail)
  all_goals (try exact AQ)
  repeat' (first
   | (refine Al 21 ?_);refine Am AA Tryz.call21 (HD.out _ hS.1) ?_;rintro e w ⟨hq,_⟩;obtain ⟨rfl,hE2⟩:=hq e1;clear hq;unfold LS;replace hS:=hS.ext hE2;clear hE2;refine AX ?_;go_step|(refine AP 20 ?_);refine AG (f:=31) Tryz.call31 AA ?_;refine ⟨_,(HR.out _ hS.1),?_⟩;rintro e w ⟨hq,_⟩;obtain ⟨rfl,hE2⟩:=hq e2;clear hq;unfold LS;replace hS:=hS.ext hE2;clear hE2;refine AX ?_;go_step|refine dd 25 ?_|(refine AP 26 ?_);refine AG (f:=31) Tryz.call31 AA ?_;refine ⟨_,(HZ.out _ hS.1),?_⟩;rintro e w ⟨rfl,hE2⟩;replace hS:=hS.ext hE2;clear hE2;refine AX ?_;go_step|go_skip|refine X0 ?_|refine IR ?_|refine Et 35 ?_ ?_<;>intro hB<;>(try exact AQ)<;>go_step|refine KQ 39 ?_ ?_<;>intro hB<;>(try exact AQ)<;>go_step|refine X9 43 ?_ ?_<;>intro hB<;>(try exact AQ)<;>go_step|refine X4 ?_|refine X3 ?_|refine UQ ?_|refine dQ ?_|refine JE ?_|refine GB 3 ?_;clear hS;intro g3 w hS|refine Ns ?_;clear hS;intro w hS|refine GB 5 ?_;clear hS;intro g5 w hS|refine GB 8 ?_;clear hS;intro g8 w hS|refine AH ?_;go_step|fail)
  all_goals (try exact AQ)
  all_goals (try (have hF:False:=(hB rfl);cases hF))
  all_goals (try (first|exact absurd e2 (by assumption)|exact absurd rfl (by assumption)))
  all_goals
   go_ret
   first|exact ⟨rfl,hS.1⟩|exact ⟨Aw (decide_eq_true e2),hS.1⟩|exact ⟨Aw (decide_eq_true rfl),hS.1⟩|exact ⟨Aw (decide_eq_true (Int.ofNat_lt.2 hg)),hS.1⟩|skip
 ·have hg:∀nb:Nat,bad.length=nb→0<nb∨nb=0∧E=6∨nb=0∧E=4:=fun nb h=>by
   rcases Nat.eq_zero_or_pos nb with h9|h9
   ·refine .inr ?_
    rcases e3 with e3|e3|e3
    ·rw [h,h9] at e3;exact absurd e3 (Nat.lt_irrefl 0)
    ·exact .inl ⟨h9,e3⟩
    exact .inr ⟨h9,e3⟩
   exact .inl h9
  have HG:=AD hg
  clear hg e3
  go_enter Tryz.func9,Tryz.ntmps9
  repeat' (first
   | (refine Al 15 ?_);refine Am AA Tryz.call15 (EY _ (HML.out.imp fun m h=>hS.1.cell h)) (EW hS ?_);clear hS;intro w hS;go_step|refine X8 ?_|refine KS ?_|refine Js 1 ?_;clear hS;intro g1 w hS|refine AH ?_;go_step|fail)
  all_goals (try exact AQ)
  repeat' (first
   | (refine Al 21 ?_);refine Am AA Tryz.call21 (HD.out _ hS.1) ?_;rintro e w ⟨hq,_⟩;obtain ⟨rfl,hE2⟩:=hq e1;clear hq;unfold LS;replace hS:=hS.ext hE2;clear hE2;refine AX ?_;go_step|(refine AP 20 ?_);refine AG (f:=31) Tryz.call31 AA ?_;refine ⟨_,(HR.out _ hS.1),?_⟩;rintro e w ⟨_,hq⟩;obtain ⟨a6,c6,R6,ab,cb,nb,hR6,hnb,rfl,hP6⟩:=hq rfl;clear hq;replace hS:=hS.call hP6;clear hP6;simp only [List.cons_append,List.nil_append] at hS;have HR6:=AD hR6;clear hR6;have hnb9:nb≤9223372036854775807:=Eh (hS.sl (a:=ab) AK);refine AX ?_;go_step|refine dd 25 ?_|(refine AP 26 ?_);refine AG (f:=31) Tryz.call31 AA ?_;refine ⟨_,(HZ.out _ hS.1),?_⟩;rintro e w ⟨rfl,hE2⟩;replace hS:=hS.ext hE2;clear hE2;refine AX ?_;go_step|refine X0 ?_|refine X4 ?_|refine X3 ?_|refine JE ?_|refine GB 3 ?_;clear hS;intro g3 w hS|refine Ns ?_;clear hS;intro w hS|refine GB 5 ?_;clear hS;intro g5 w hS|refine GB 8 ?_;clear hS;intro g8 w hS|refine AH ?_;go_step|fail)
  all_goals (try exact AQ)
  have hg:=HG.out nb hnb
  rcases hg with hg|⟨rfl,rfl⟩|⟨rfl,rfl⟩
  all_goals
   repeat' (first
    | go_skip|((first|(with_reducible refine J4 ?_)|(with_reducible refine RI ?_));(first|go_big_want|go_step);go_step)|((with_reducible refine Ak _ (.pick _ _ _) ?_);first|(refine BD rfl AA ?_;go_step)|(refine A6 rfl AA ?_;go_step))|((refine AP 39 ?_);(refine CY _ (V.gtr rfl rfl) AA (fun hB=>?_) (fun hB=>?_)<;>(try exact AQ)<;>go_step))|((refine AP 43 ?_);(refine CY _ (V.eql rfl rfl) AA (fun hB=>?_) (fun hB=>?_)<;>(try exact AQ)<;>go_step))|((with_reducible refine Ak _ (.call ⟨.builtin .len,_,_⟩) ?_);(refine Ap AA (V.len Tryz.underlying30 rfl) ?_;go_step))|((with_reducible refine Ak _ (.binOp .eql 38 _ _ _) ?_);(refine Ap AA (V.eql rfl rfl) ?_;go_step))|(refine AH ?_;go_step)|fail)
   all_goals (try exact AQ)
   all_goals (try (have hF:False:=(hB rfl);cases hF))
   all_goals
    go_ret
    first|exact ⟨rfl,hS.1⟩|exact ⟨Aw (decide_eq_true e2),hS.1⟩|exact ⟨Aw (decide_eq_true rfl),hS.1⟩|exact ⟨Aw (decide_eq_true (Int.ofNat_lt.2 hg)),hS.1⟩|skip
 go_enter Tryz.func9,Tryz.ntmps9
 repeat' (first
  | (refine Al 15 ?_);refine Am AA Tryz.call15 (EY _ (HML.out.imp fun m h=>hS.1.cell h)) (EW hS ?_);clear hS;intro w hS;go_step|refine X8 ?_|refine KS ?_|refine Js 1 ?_;clear hS;intro g1 w hS|refine AH ?_;go_step|fail)
 all_goals (try exact AQ)
 repeat' (first
  | (refine Al 21 ?_);refine Am AA Tryz.call21 (HD.out _ hS.1) ?_;rintro e w ⟨_,hq⟩;obtain ⟨a5,c5,R5,hR5,rfl,hP5⟩:=hq rfl;clear hq;replace hS:=hS.call hP5;clear hP5;simp only [List.cons_append,List.nil_append] at hS;have HR5:=AD hR5;clear hR5;refine AX ?_;go_step|(refine AP 20 ?_);refine AG (f:=31) Tryz.call31 AA ?_;refine ⟨_,(HR.out _ hS.1),?_⟩;rintro e w ⟨_,hq⟩;obtain ⟨a6,c6,R6,ab,cb,nb,hR6,hnb,rfl,hP6⟩:=hq rfl;clear hq;replace hS:=hS.call hP6;clear hP6;simp only [List.cons_append,List.nil_append] at hS;have HR6:=AD hR6;clear hR6;have hnb9:nb≤9223372036854775807:=Eh (hS.sl (a:=ab) AK);refine AX ?_;go_step|refine dd 25 ?_|(refine AP 26 ?_);refine AG (f:=31) Tryz.call31 AA ?_;refine ⟨_,(HZ.out _ hS.1),?_⟩;rintro e w ⟨rfl,hE2⟩;replace hS:=hS.ext hE2;clear hE2;refine AX ?_;go_step|refine X0 ?_|refine X4 ?_|refine X3 ?_|refine JE ?_|refine GB 3 ?_;clear hS;intro g3 w hS|refine Ns ?_;clear hS;intro w hS|refine GB 5 ?_;clear hS;intro g5 w hS|refine GB 8 ?_;clear hS;intro g8 w hS|refine AH ?_;go_step|fail)
 all_goals (try exact AQ)
 obtain rfl:nb=0:=hnb.symm
 repeat' (first
  | (refine Al 23 ?_);refine Am AA Tryz.call23 (BQ _ m h a5 a6 c5 c6 R5 R6 (Av.of hS AK AK) (Av.of hS AK AK) (Eh (Av.of (a:=a5) (c:=c5) (R:=R5) hS AK AK).sl) (HR5.out.trans HR6.out.symm)) (EW hS ?_);clear hS;intro w hS;go_step|refine X0 ?_|refine Eu ?_|refine X9 50 ?_ ?_<;>intro hB<;>(try exact AQ)<;>go_step|refine X9 54 ?_ ?_<;>intro hB<;>(try exact AQ)<;>go_step|refine UQ ?_|refine PF ?_|refine AH ?_;go_step|fail)
 all_goals (try exact AQ)
 all_goals (try (have hF:False:=(hB rfl);cases hF))
 all_goals (try (first|exact absurd e2 (by assumption)|exact absurd rfl (by assumption)))
 all_goals
  go_ret
  first|exact ⟨rfl,hS.1⟩|exact ⟨Aw (decide_eq_true e2),hS.1⟩|exact ⟨Aw (decide_eq_true rfl),hS.1⟩|exact ⟨Aw (decide_eq_true (Int.ofNat_lt.2 hg)),hS.1⟩|skip
def CM:Array Value:=#[.agg #[.int .i64 0, .int .i64 0, .int .i64 0, .int .i64 0, .int .i64 0, .int .i64 0, .int .i64 0, .int .i64 0, .int .i64 0, .int .i64 0, .int .i64 0, .int .i64 0, .int .i64 0, .int .i64 0, .int .i64 0, .int .i64 0, .int .i64 0, .int .i64 0, .int .i64 0, .int .i64 0, .int .i64 0, .int .i64 0, .int .i64 0, .int .i64 0, .int .i64 0, .int .i64 0, .int .i64 0, .int .i64 0, .int .i64 0, .int .i64 0, .int .i64 0, .int .i64 0, .int .i64 0, .int .i64 0, .int .i64 0, .int .i64 0, .int .i64 0, .int .i64 0, .int .i64 0, .int .i64 0, .int .i64 0, .int .i64 0, .int .i64 0, .int .i64 0, .int .i64 0, .int .i64 0, .int .i64 0, .int .i64 0, .int .i64 0, .int .i64 0, .int .i64 0, .int .i64 0, .int .i64 0, .int .i64 0, .int .i64 0, .int .i64 0, .int .i64 0, .int .i64 0, .int .i64 0, .int .i64 0, .int .i64 0, .int .i64 0, .int .i64 0, .int .i64 0, .int .i64 0, .int .i64 0, .int .i64 0, .int .i64 0, .int .i64 0, .int .i64 0, .int .i64 0, .int .i64 0, .int .i64 0, .int .i64 0, .int .i64 0, .int .i64 0, .int .i64 0, .int .i64 0, .int .i64 0, .int .i64 0, .int .i64 0, .int .i64 0, .int .i64 0, .slice none 0 0, .int .i64 0, .int .i64 0, .int .i64 0, .int .i64 0, .int .i64 0, .int .i64 0, .int .i64 0, .int .i64 0, .int .i64 0, .int .i64 0, .int .i64 0, .int .i64 0, .int .i64 0, .int .i64 0, .int .i64 0, .int .i64 0, .slice none 0 0, .int .i64 0, .slice none 0 0]]
theorem KM:ownKnob Tryz.prog.godebug=none:=by kernel_rfl
theorem Gy:laidOutB Tryz.prog=true:=by kernel_rfl
theorem KL(os:Os)(args:Array Value):laidMetH Tryz.prog Rows.rescueWholeRow.laid ((World.laidAll Tryz.prog os Rows.rescueWholeRow.laid).forCall (fun _ _=>0) ⟨#[],args,[]⟩).memory:=by
 rw [MakeChecks.laidMetH_plain _ _ _ AA];exact laidMet_laidAll _ AA AA
theorem IQ(os:Os){H:Type}(enc:TypeId×Value→H):∃places,DataW.whole enc Tryz.prog ((World.laidAll Tryz.prog os Rows.rescueWholeRow.laid).forCall (fun _ _=>0) ⟨#[],CM,[]⟩).memory Tryz.f9.params.toList Rows.rescueWholeSpec.vars false (CM:Array Value).toList 8=some ([.agg [.lit (.int .i64 0), .lit (.int .i64 0), .lit (.int .i64 0), .agg [.lit (.int .i64 0), .lit (.int .i64 0), .lit (.int .i64 0), .lit (.int .i64 0), .lit (.int .i64 0), .lit (.int .i64 0), .lit (.int .i64 0), .lit (.int .i64 0), .lit (.int .i64 0), .lit (.int .i64 0), .lit (.int .i64 0), .lit (.int .i64 0), .lit (.int .i64 0), .lit (.int .i64 0), .lit (.int .i64 0), .lit (.int .i64 0), .lit (.int .i64 0), .lit (.int .i64 0), .lit (.int .i64 0), .lit (.int .i64 0), .lit (.int .i64 0), .lit (.int .i64 0), .lit (.int .i64 0), .lit (.int .i64 0), .lit (.int .i64 0), .lit (.int .i64 0), .lit (.int .i64 0), .lit (.int .i64 0), .lit (.int .i64 0), .lit (.int .i64 0), .lit (.int .i64 0), .lit (.int .i64 0), .lit (.int .i64 0), .lit (.int .i64 0), .lit (.int .i64 0), .lit (.int .i64 0), .lit (.int .i64 0), .lit (.int .i64 0), .lit (.int .i64 0), .lit (.int .i64 0), .lit (.int .i64 0), .lit (.int .i64 0), .lit (.int .i64 0), .lit (.int .i64 0), .lit (.int .i64 0), .lit (.int .i64 0), .lit (.int .i64 0), .lit (.int .i64 0), .lit (.int .i64 0), .lit (.int .i64 0), .lit (.int .i64 0), .lit (.int .i64 0), .lit (.int .i64 0), .lit (.int .i64 0), .lit (.int .i64 0), .lit (.int .i64 0), .lit (.int .i64 0), .lit (.int .i64 0), .lit (.int .i64 0), .lit (.int .i64 0), .lit (.int .i64 0), .lit (.int .i64 0), .lit (.int .i64 0), .lit (.int .i64 0)], .agg [.agg [.agg [.lit (.int .i64 0), .lit (.int .i64 0), .lit (.int .i64 0), .lit (.int .i64 0), .lit (.int .i64 0), .lit (.int .i64 0), .lit (.int .i64 0), .lit (.int .i64 0), .lit (.int .i64 0), .lit (.int .i64 0), .lit (.int .i64 0), .lit (.int .i64 0), .lit (.int .i64 0), .lit (.int .i64 0), .lit (.int .i64 0), .lit (.int .i64 0)], .nil], .agg [.agg [.lit (.int .i64 0), .lit (.int .i64 0), .lit (.int .i64 0), .lit (.int .i64 0), .lit (.int .i64 0), .lit (.int .i64 0), .lit (.int .i64 0), .lit (.int .i64 0), .lit (.int .i64 0), .lit (.int .i64 0), .lit (.int .i64 0), .lit (.int .i64 0), .lit (.int .i64 0), .lit (.int .i64 0), .lit (.int .i64 0), .lit (.int .i64 0)], .nil]], .lit (.int .i64 0), .nil]],[],places):=
 ⟨[],by kernel_rfl⟩
theorem Hk(os:Os)(started:os.Started)(H:Type)(enc:TypeId×Value→H)(F:Stop.Interp):
 ReturnsInHanded {} Tryz.checked os 9 .any ((OpenSpec.ofChange Rows.rescueWholeSpec).preRow enc Tryz.prog Tryz.f9 Rows.rescueWholeRow.domain false Rows.rescueWholeRow.laid) (((OpenSpec.ofChange Rows.rescueWholeSpec).at F).post enc Tryz.prog Tryz.f9 false true false false):=by
 obtain ⟨places,hx⟩:=IQ os enc
 have hok:Input.okWideB Tryz.prog ((World.laidAll Tryz.prog os Rows.rescueWholeRow.laid).forCall (fun _ _=>0) ⟨#[],CM,[]⟩) 9 ⟨#[],CM,[]⟩=true:=by kernel_rfl
 refine returnsInHanded_of_row (C:=Tryz.checked) (s:=OpenSpec.ofChange Rows.rescueWholeSpec) KM started AA Tryz.func9
  ⟨(World.laidAll Tryz.prog os Rows.rescueWholeRow.laid),fun _ _=>0,⟨#[],CM,[]⟩,World.laidAll_os _ _ _,World.shaped_of_ZipB AA AA,(Input.okWide_of_okWideB (base:=0) hok).1,(Input.okWide_of_okWideB hok).2,
   OpenSpec.preRow_of_cond 8 hx AA (fun k hk=>by cases hk) AA (KL os _),by
   simp only [Assume.holds]
   exact ⟨by simp,by simp,by simp,by simp,by simp⟩⟩ ?_
 intro W base args ds gs before hval0 hW _ hk _ hL hsh _
 have hval:∀(j:Nat) t v,Tryz.f9.params[j]? =some t→args[j]? =some v→Value.okWide Tryz.prog W .any base t v:=hval0
 have hW':=hW
 obtain ⟨p,q,hA0,hV,rfl,hfz,hnd⟩:=hW
 have hA:DataW.TrodAll enc Tryz.prog W 0 (fun _=>true) true Tryz.f9.params.toList args.toList ds p:=hA0
 rw [Tryz.params9] at hA hval
 obtain ⟨v0,vs0,d0,ds0,p0,q0,hargs,rfl,rfl,h0,r0⟩:=trodAll_cons hA
 obtain ⟨rfl,rfl,rfl⟩:=trodAll_nil r0
 obtain rfl:args=#[v0]:=by cases args;simp_all
 obtain ⟨rfl,rfl⟩:=trodVars_none hV
 have lt0:∀x∈p0,x.block<W.heap.size:=by obtain ⟨m,hm⟩:=h0;exact DataW.trod_lt m _ _ _ hm
 refine (JM W (hval 0 37 v0 rfl rfl) h0 lt0 hsh).mono fun e W' ⟨he,bel⟩=>?_
 subst he
 exact ⟨_,rfl,_,_,_,[],_,[],hW',trodAll_mk1 (shut_bool Tryz.underlying4 _),(trodAll_cons_mk (Below.trod Gy AA (of_decide_eq_true AA) h0 bel lt0) trodAll_mk0),rfl,bel.frame _,fun h=>by cases h⟩
theorem JL:Rows.RescueWholeSaid:=
 OpenClaim.holds_of_cond 9 Tryz.f9 rfl rfl rfl rfl rfl rfl rfl ⟨rfl,rfl,rfl,rfl,rfl⟩ rfl rfl rfl rfl rfl AA Tryz.func9 AA
  (of_decide_eq_true AA) (by unfold Func.isWrapper;rw [if_neg (by decide+kernel)];exact ⟨rfl,rfl⟩)
  (fun os started H enc _ F=>by rw [OpenClaim.pre_eq_preRow];exact Hk os started H enc F)
theorem Gz(f:FuncId)(fn:Func)(hf:Tryz.pinned.checked.prog.funcNamed "mezzotint/mezzotintkeep.RescueWhole" =some f)(hfn:Tryz.pinned.checked.prog.funcs[f]? =some fn):
 false=Tryz.pinned.checked.prog.looks []∧∀(j:Nat) t,fn.params[j]? =some t→Tryz.pinned.checked.prog.wantsStandIn t=false:=by
 obtain rfl:f=9:=Option.some.inj ((show Tryz.prog.funcNamed "mezzotint/mezzotintkeep.RescueWhole" =some 9 by kernel_rfl).symm.trans hf) |>.symm
 obtain rfl:fn=Tryz.f9:=(Option.some.inj (Tryz.func9.symm.trans hfn)).symm
 refine ⟨by kernel_rfl,fun j t ht=>?_⟩
 rw [Tryz.params9] at ht
 have hm:t∈([37]:List Nat):=by simpa using Array.mem_of_getElem? ht
 have hall:(([37]:List Nat).all fun u=>!Tryz.prog.wantsStandIn u)=true:=by kernel_rfl
 exact (show Tryz.prog.wantsStandIn t=false by simpa using List.all_eq_true.1 hall t hm)
theorem RescueWhole_proved:Rows.RescueWholeCardSaid:=
 Claim7.holds_tied_plain_at .later [] _ _ _ _ JL (fun _ h=>by cases h) AA (fun _ h=>by cases h) rescueWhole_row_tie rfl ⟨rfl,rfl⟩ AA rfl Gz AA
end Go.Proofs.YtohacgmhmbijmaaGreatDoor
