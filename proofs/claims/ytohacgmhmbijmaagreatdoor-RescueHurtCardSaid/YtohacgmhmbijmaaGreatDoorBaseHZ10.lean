/- What the laws RescueHurt need, part 10. -/
import Derived.Test.YtohacgmhmbijmaaGreatDoorBaseHZ2
import Derived.Test.YtohacgmhmbijmaaGreatDoorBaseHZ3
import Derived.Test.YtohacgmhmbijmaaGreatDoorBaseHZ6
import Derived.Test.YtohacgmhmbijmaaGreatDoorBaseHZ8
import Derived.Test.YtohacgmhmbijmaaGreatDoorBaseHZ9
namespace Go.Proofs.YtohacgmhmbijmaaGreatDoor
attribute [local irreducible] Region.wanted
open Go.RowKit
set_option linter.unusedVariables false
set_option maxRecDepth 100000
set_option maxHeartbeats 8000000
def B9(b:Bool)(s:Int):Int:=if b then s else s%16
def Aq(L1 L2:List (Int×Nat×Nat))(l:List Nat)(i:Nat)(b:Bool):CH×Int×Nat:=
 if (Gq (if b then L1 else L2) l i 16 0).2.1≠0 then ((0,0,0),(Gq (if b then L1 else L2) l i 16 0).2.1,(Gq (if b then L1 else L2) l i 16 0).2.2) else
 if 12<B9 b (Gq (if b then L1 else L2) l i 16 0).1∨(b=false∧11<B9 b (Gq (if b then L1 else L2) l i 16 0).1) then ((0,0,0),4,(Gq (if b then L1 else L2) l i 16 0).2.2) else
 if 8*l.length<(Gq (if b then L1 else L2) l i 16 0).2.2+(B9 b (Gq (if b then L1 else L2) l i 16 0).1).toNat then ((0,0,0),3,(Gq (if b then L1 else L2) l i 16 0).2.2)
 else (((Gq (if b then L1 else L2) l i 16 0).1,B9 b (Gq (if b then L1 else L2) l i 16 0).1,(BB l (Gq (if b then L1 else L2) l i 16 0).2.2 (B9 b (Gq (if b then L1 else L2) l i 16 0).1).toNat:Nat)),0,(Gq (if b then L1 else L2) l i 16 0).2.2+(B9 b (Gq (if b then L1 else L2) l i 16 0).1).toNat)
def MC(gc gr:Nat)(L1 L2:List (Int×Nat×Nat))(ad:Option Addr)(n c:Nat)(l:List Nat)(i:Nat):Ar:=bg fun _:{_u:Unit // i≤8*n}=>[Zv gc L1 L2,SQ gr ad n c i l]
theorem Q6(W w0:World)(rs rs':List Ar)(gc gr:Nat)(L1 L2:List (Int×Nat×Nat))(ad:Option Addr)(n c:Nat)(l:List Nat)(i:Nat)(b:Bool)(t0 t1 t2 er:Int)(s':Nat)(hL1:Cj L1)(hL2:Cj L2)(hl:∀x∈l,x<256)(hn:n≤1000000000000000000)(hS:St W w0 rs)(hp:AT (MC gc gr L1 L2 ad n c l i) rs rs')(hnx:Aq L1 L2 l i b=((t0,t1,t2),er,s')):
 Calls Tryz.prog 175 #[.agg #[.pointer (some ⟨gc,0,none⟩), .pointer (some ⟨gr,0,none⟩)], .bool b] w0 fun e w=>e= .returned (.tuple #[.agg #[.int .i64 t0, .int .i64 t1, .int .i64 t2], .int .i64 er])∧St W w (MC gc gr L1 L2 ad n c l s'::rs'):=by
 obtain ⟨⟨_,hi⟩,hS⟩:=(hS.pull hp).open
 obtain ⟨⟨p1,p2⟩,hS⟩:=(hS.pull .head).open
 replace hS:St W w0 (blk gc [.pointer (some ⟨p1,0,none⟩), .pointer (some ⟨p2,0,none⟩)]::KW p1 L1::KW p2 L2::SQ gr ad n c i l::rs'):=hS
 clear hp
 have hln:l.length=n:=SR hS (.head) (.tail (.tail .head))
 obtain ⟨L,hL⟩:∃L,(if b then L1 else L2)=L:=⟨_,rfl⟩
 obtain ⟨gb,hgb⟩:∃x,(if b then p1 else p2)=x:=⟨_,rfl⟩
 have hGL:Cj L:=by rw [←hL];cases b<;>assumption
 have HGB:=AD hgb
 obtain ⟨r2,hS2,hC⟩:∃r2,St W w0 (KW gb L::r2::blk gc [.pointer (some ⟨p1,0,none⟩), .pointer (some ⟨p2,0,none⟩)]::SQ gr ad n c i l::rs')∧∀w i rs,i≤8*n→St W w (KW gb L::r2::blk gc [.pointer (some ⟨p1,0,none⟩), .pointer (some ⟨p2,0,none⟩)]::SQ gr ad n c i l::rs)→St W w (MC gc gr L1 L2 ad n c l i::rs):=by
  have key:∀w i rs,i≤8*n→St W w (blk gc [.pointer (some ⟨p1,0,none⟩), .pointer (some ⟨p2,0,none⟩)]::KW p1 L1::KW p2 L2::SQ gr ad n c i l::rs)→St W w (MC gc gr L1 L2 ad n c l i::rs):=fun w i rs hi h=>by
   refine St.close ⟨(),hi⟩ ?_
   refine St.close (p1,p2) ?_
   exact h
  cases b
  ·obtain rfl:L2=L:=by simpa using hL
   obtain rfl:p2=gb:=by simpa using hgb
   exact ⟨KW p1 L1,hS.sub AV,fun w i rs hi h=>key w i rs hi (h.sub AV)⟩
  obtain rfl:L1=L:=by simpa using hL
  obtain rfl:p1=gb:=by simpa using hgb
  exact ⟨KW p2 L2,hS.sub AV,fun w i rs hi h=>key w i rs hi (h.sub AV)⟩
 unfold Aq at hnx
 rw [hL] at hnx
 obtain ⟨⟨sy,ge,gi⟩,hG⟩:∃y,Gq L l i 16 0=y:=⟨_,rfl⟩
 rw [hG] at hnx
 dsimp only at hnx
 have hsym:ge=0→0≤sy∧sy<256:=fun h=>by
  have h0:=Zy (L:=L) l i 16 0 (by rw [hG];exact h)
  obtain ⟨m,_,_,_,_,hm⟩:=h0
  rw [hG] at hm
  exact hGL.range _ hm
 clear hS hL hgb
 have hS:=hS2
 have HC:=AD hC
 have HG:=AD hG
 have HLt:=AD hl
 clear hS2 hC hG hl
 by_cases hge:ge=0
 case neg=>
  rw [if_pos hge] at hnx
  obtain ⟨⟨rfl,rfl,rfl⟩,rfl,rfl⟩:((0:Int)=t0∧(0:Int)=t1∧(0:Int)=t2)∧ge=er∧gi=s':=by simpa using hnx
  clear hnx hsym
  go_enter Tryz.func175,Tryz.ntmps175
  repeat' (first
   | refine X8 ?_|refine XZ 2 ?_;clear hS;intro g2 w hS|refine It 4 ?_;clear hS;intro g4 w hS|refine AG ?_;go_step|fail)
  refine AP [6] (fun w=>St W w [blk g2 [.pointer (some ⟨gc,0,none⟩), .pointer (some ⟨gr,0,none⟩)]]) AA ?_
  replace hS:=hS.drew
  focus
   refine BZ 0 BN (V.fieldAddr J0 rfl A7) ?_;go_step
   refine dG 1 [3,6,7,8,9,10,11] ?_
   refine AZ 2 ?_
   refine BZ 4 BN (V.fieldAddr IG rfl A7) ?_;go_step
   refine eZ 5 [6,7,8,9,10,11] ?_
   refine Av 3 ?_
   refine AY (f:=109) rfl Tryz.call109 (I3 W _ _ _ gc p1 p2 b hS AL) ?_;rintro e w ⟨rfl,hE⟩;replace hS:=hS.ext hE;clear hE;rw [HGB.out];refine ⟨_,rfl,?_⟩
   refine ⟨fun _ _=>hS.sub AV,?_⟩
   refine AI ?_
   go_step
   refine Av 6 ?_
   refine AY (f:=176) rfl Tryz.call176 (FR W _ _ _ _ gb gr n c i ad L l hS AL AL HLt.out hn hi) ?_;clear hS;rw [HG.out];rintro e w ⟨rfl,hgi,hS⟩;dsimp only at hgi hS;refine ⟨_,rfl,?_⟩
   refine ⟨fun h=>absurd (by decide) h,?_⟩
   refine AI ?_
   go_step
   refine AZ 7 ?_
   refine Y2 8 ?_
   refine Y2 9 ?_
   refine AZ 10 ?_
   refine AZ 11 ?_
   refine AE AA ?_ _
  all_goals
   repeat' (first
    | refine X0 ?_|refine X4 ?_|refine Xw 23 ?_|refine Il ?_;clear hS;intro w hS|refine AG ?_;go_step|fail)
   all_goals (try exact AR)
   refine AK (xs:=[_,_]) rfl (.cons (AC.blk hS rfl (AO (n:=3) rfl) AL rfl) (.cons (AC.tmp rfl) (.nil))) (by simp) rfl ?_
   exact ⟨rfl,HC.out _ _ _ hgi (hS.sub AV)⟩
 subst hge
 have hsy:=hsym rfl
 clear hsym
 rw [if_neg (by simp)] at hnx
 have HAnd:=AD (Uv sy (by omega))
 obtain ⟨k,hk⟩:∃k:Nat,B9 b sy=(k:Int):=⟨(B9 b sy).toNat,by unfold B9;split<;>omega⟩
 rw [hk] at hnx
 have HK:=AD hk
 have hk256:k<256:=by unfold B9 at hk;split at hk<;>omega
 clear hk
 by_cases hbad:12<(k:Int)∨(b=false∧11<(k:Int))
 ·rw [if_pos hbad] at hnx
  obtain ⟨⟨rfl,rfl,rfl⟩,rfl,rfl⟩:((0:Int)=t0∧(0:Int)=t1∧(0:Int)=t2)∧(4:Int)=er∧gi=s':=by simpa using hnx
  clear hnx
  go_enter Tryz.func175,Tryz.ntmps175
  repeat' (first
   | refine X8 ?_|refine XZ 2 ?_;clear hS;intro g2 w hS|refine It 4 ?_;clear hS;intro g4 w hS|refine AG ?_;go_step|fail)
  refine AP [6] (fun w=>St W w [blk g2 [.pointer (some ⟨gc,0,none⟩), .pointer (some ⟨gr,0,none⟩)]]) AA ?_
  replace hS:=hS.drew
  focus
   refine BZ 0 BN (V.fieldAddr J0 rfl A7) ?_;go_step
   refine dG 1 [3,6,7,8,9,10,11] ?_
   refine AZ 2 ?_
   refine BZ 4 BN (V.fieldAddr IG rfl A7) ?_;go_step
   refine eZ 5 [6,7,8,9,10,11] ?_
   refine Av 3 ?_
   refine AY (f:=109) rfl Tryz.call109 (I3 W _ _ _ gc p1 p2 b hS AL) ?_;rintro e w ⟨rfl,hE⟩;replace hS:=hS.ext hE;clear hE;rw [HGB.out];refine ⟨_,rfl,?_⟩
   refine ⟨fun _ _=>hS.sub AV,?_⟩
   refine AI ?_
   go_step
   refine Av 6 ?_
   refine AY (f:=176) rfl Tryz.call176 (FR W _ _ _ _ gb gr n c i ad L l hS AL AL HLt.out hn hi) ?_;clear hS;rw [HG.out];rintro e w ⟨rfl,hgi,hS⟩;dsimp only at hgi hS;refine ⟨_,rfl,?_⟩
   refine ⟨fun h=>absurd (by decide) h,?_⟩
   refine AI ?_
   go_step
   refine AZ 7 ?_
   refine Y2 8 ?_
   refine Y2 9 ?_
   refine AZ 10 ?_
   refine AZ 11 ?_
   refine AE AA ?_ _
  all_goals
   cases b
   ·have hk1:=AD (show sy%16=(k:Int) from HK.out)
    have hk2:11<k:=by rcases hbad with h|⟨_,h⟩<;>omega
    clear hbad
    repeat' (first
     | refine X1 ?_|refine X4 ?_|refine AG ?_;go_step|fail)
    all_goals (try exact AR)
    repeat' (first
     | refine bA 27 ?_|refine X1 ?_|refine dE 28 ?_|refine It 8 ?_;clear hS;intro g8 w hS|refine Il ?_;clear hS;intro w hS|refine AG ?_;go_step|fail)
    repeat' (first
     | go_skip|((first|(with_reducible refine Io ?_)|(with_reducible refine QC ?_));(first|go_big_want|go_step);go_step)|((with_reducible refine Ak _ (.pick _ _ _) ?_);first|(refine A6 rfl AA ?_;go_step)|(refine A3 rfl AA ?_;go_step))|((refine AQ 34 ?_);(refine CG _ (V.gtr rfl rfl) AA (fun hB=>?_) (fun hB=>?_)<;>(try exact AR)<;>go_step))|((refine AQ 37 ?_);(refine cR _ (V.not rfl) AA (fun hB=>?_) (fun hB=>?_)<;>(try exact Jn hB)<;>go_step))|((with_reducible refine Ak _ (.fieldAddr 155 _ 1) ?_);(refine An AA (V.fieldAddr NH rfl A7) ?_;go_step))|((with_reducible refine Ak _ (.binOp .gtr _ _ _ _) ?_);(refine An AA (V.gtr rfl rfl) ?_;go_step))|((refine AQ 44 ?_);(refine An AA (V.build (vs:=[]) rfl (Uy)) ?_;go_step))|((with_reducible refine Ak _ (.load 3 _) ?_);(refine Ad ?_;apply AX hS 3 _ rfl _ _ rfl (AH rfl) _;(case hp=>exact AL);(case hc=>rfl);refine AB ?_;go_step))|((with_reducible refine Ak _ (.store 155 _ _) ?_);(refine Ad ?_;apply CZ hS 155 _ _ rfl _ rfl 3 (AO rfl) _ _;(case hp=>exact AL);(case hy=>rfl);(case hn=>rfl);(case hn'=>rfl);(case hv=>rfl);(case hd=>exact rfl);clear hS;intro w hS))|(refine AG ?_;go_step)|fail)
    all_goals (try exact AR)
    all_goals
     refine AK (xs:=[_,_]) rfl (.cons (AC.blk hS rfl (AO (n:=3) rfl) AL rfl) (.cons (AC.tmp rfl) (.nil))) (by simp) rfl ?_
     exact ⟨rfl,HC.out _ _ _ hgi (hS.sub AV)⟩
   obtain rfl:sy=(k:Int):=HK.out
   have hk2:12<k:=by rcases hbad with h|⟨h,_⟩<;>first|omega|cases h
   clear hbad
   repeat' (first
    | refine X1 ?_|refine X4 ?_|refine AG ?_;go_step|fail)
   all_goals (try exact AR)
   repeat' (first
    | refine az 27 ?_|go_skip|refine X0 ?_|refine Fi ?_|refine Jt 34 ?_ ?_<;>intro hB<;>(try exact AR)<;>go_step|refine dE 28 ?_|refine RU ?_|refine Xw 44 ?_|refine It 8 ?_;clear hS;intro g8 w hS|refine Il ?_;clear hS;intro w hS|refine cr ?_;clear hS;intro w hS|refine X9 ?_|refine AG ?_;go_step|fail)
   all_goals (try exact AR)
   all_goals
    refine AK (xs:=[_,_]) rfl (.cons (AC.blk hS rfl (AO (n:=3) rfl) AL rfl) (.cons (AC.tmp rfl) (.nil))) (by simp) rfl ?_
    exact ⟨rfl,HC.out _ _ _ hgi (hS.sub AV)⟩
 rw [if_neg hbad,hln,Int.toNat_natCast] at hnx
 have hkb:k≤12∧(b=false→k≤11):=by
  refine ⟨by omega,fun h=>?_⟩
  rcases Nat.lt_or_ge 11 k with h1|h1
  ·exact absurd (.inr ⟨h,by omega⟩) hbad
  exact h1
 by_cases hsh:8*n<gi+k
 ·rw [if_pos hsh] at hnx
  obtain ⟨⟨rfl,rfl,rfl⟩,rfl,rfl⟩:((0:Int)=t0∧(0:Int)=t1∧(0:Int)=t2)∧(3:Int)=er∧gi=s':=by simpa using hnx
  clear hnx hbad
  go_enter Tryz.func175,Tryz.ntmps175
  repeat' (first
   | refine X8 ?_|refine XZ 2 ?_;clear hS;intro g2 w hS|refine It 4 ?_;clear hS;intro g4 w hS|refine AG ?_;go_step|fail)
  refine AP [6] (fun w=>St W w [blk g2 [.pointer (some ⟨gc,0,none⟩), .pointer (some ⟨gr,0,none⟩)]]) AA ?_
  replace hS:=hS.drew
  focus
   refine BZ 0 BN (V.fieldAddr J0 rfl A7) ?_;go_step
   refine dG 1 [3,6,7,8,9,10,11] ?_
   refine AZ 2 ?_
   refine BZ 4 BN (V.fieldAddr IG rfl A7) ?_;go_step
   refine eZ 5 [6,7,8,9,10,11] ?_
   refine Av 3 ?_
   refine AY (f:=109) rfl Tryz.call109 (I3 W _ _ _ gc p1 p2 b hS AL) ?_;rintro e w ⟨rfl,hE⟩;replace hS:=hS.ext hE;clear hE;rw [HGB.out];refine ⟨_,rfl,?_⟩
   refine ⟨fun _ _=>hS.sub AV,?_⟩
   refine AI ?_
   go_step
   refine Av 6 ?_
   refine AY (f:=176) rfl Tryz.call176 (FR W _ _ _ _ gb gr n c i ad L l hS AL AL HLt.out hn hi) ?_;clear hS;rw [HG.out];rintro e w ⟨rfl,hgi,hS⟩;dsimp only at hgi hS;refine ⟨_,rfl,?_⟩
   refine ⟨fun h=>absurd (by decide) h,?_⟩
   refine AI ?_
   go_step
   refine AZ 7 ?_
   refine Y2 8 ?_
   refine Y2 9 ?_
   refine AZ 10 ?_
   refine AZ 11 ?_
   refine AE AA ?_ _
  all_goals
   cases b
   ·have hk1:=AD (show sy%16=(k:Int) from HK.out)
    have hk2:=hkb.2 rfl
    clear hkb
    repeat' (first
     | refine X1 ?_|refine X4 ?_|refine AG ?_;go_step|fail)
    all_goals (try exact AR)
    repeat' (first
     | refine bA 27 ?_|refine X1 ?_|refine dE 28 ?_|refine It 8 ?_;clear hS;intro g8 w hS|refine Il ?_;clear hS;intro w hS|refine AG ?_;go_step|fail)
    repeat' (first
     | refine X1 ?_|refine Iu ?_|refine Jt 34 ?_ ?_<;>intro hB<;>(try exact AR)<;>go_step|refine KL 37 ?_ ?_<;>intro hB<;>(try exact Jn hB)<;>go_step|refine RU ?_|refine H3 ?_|refine X9 ?_|refine AG ?_;go_step|fail)
    all_goals (try exact AR)
    repeat' (first
     | (refine AQ 50 ?_);refine AM (f:=90) Tryz.call90 AA ?_;refine ⟨_,(Dl W _ _ _ gr n c gi k ad l hS AL HLt.out hn hgi (by omega)),?_⟩;rintro e w ⟨hq,_⟩;obtain ⟨rfl,hS2⟩:=hq hsh;clear hq hS;have hS:=hS2;clear hS2;refine Ac ?_;go_step|refine X0 ?_|refine bL ?_|refine RU ?_|refine X6 ?_|refine RW ?_|refine Xw 55 ?_|refine bQ ?_|refine X9 ?_|refine Il ?_;clear hS;intro w hS|refine AG ?_;go_step|fail)
    refine AK (xs:=[_,_]) rfl (.cons (AC.blk hS rfl (AO (n:=3) rfl) AL rfl) (.cons (AC.tmp rfl) (.nil))) (by simp) rfl ?_
    exact ⟨rfl,HC.out _ _ _ hgi (hS.sub AV)⟩
   obtain rfl:sy=(k:Int):=HK.out
   have hk2:=hkb.1
   clear hkb
   repeat' (first
    | refine X1 ?_|refine X4 ?_|refine AG ?_;go_step|fail)
   all_goals (try exact AR)
   repeat' (first
    | refine az 27 ?_|go_skip|refine X1 ?_|refine H7 ?_|refine Jt 34 ?_ ?_<;>intro hB<;>(try exact AR)<;>go_step|refine KL 37 ?_ ?_<;>intro hB<;>(try exact Jn hB)<;>go_step|refine dE 28 ?_|refine RU ?_|refine It 8 ?_;clear hS;intro g8 w hS|refine Il ?_;clear hS;intro w hS|refine cr ?_;clear hS;intro w hS|refine X9 ?_|refine AG ?_;go_step|fail)
   all_goals (try exact AR)
   repeat' (first
    | (refine AQ 50 ?_);refine AM (f:=90) Tryz.call90 AA ?_;refine ⟨_,(Dl W _ _ _ gr n c gi k ad l hS AL HLt.out hn hgi (by omega)),?_⟩;rintro e w ⟨hq,_⟩;obtain ⟨rfl,hS2⟩:=hq hsh;clear hq hS;have hS:=hS2;clear hS2;refine Ac ?_;go_step|refine X0 ?_|refine bL ?_|refine RU ?_|refine X6 ?_|refine RW ?_|refine Xw 55 ?_|refine bQ ?_|refine X9 ?_|refine Il ?_;clear hS;intro w hS|refine AG ?_;go_step|fail)
   refine AK (xs:=[_,_]) rfl (.cons (AC.blk hS rfl (AO (n:=3) rfl) AL rfl) (.cons (AC.tmp rfl) (.nil))) (by simp) rfl ?_
   exact ⟨rfl,HC.out _ _ _ hgi (hS.sub AV)⟩
 rw [if_neg hsh] at hnx
 obtain ⟨⟨rfl,rfl,rfl⟩,rfl,rfl⟩:(sy=t0∧(k:Int)=t1∧((BB l gi k:Nat):Int)=t2)∧(0:Int)=er∧gi+k=s':=by simpa using hnx
 clear hnx hbad
 go_enter Tryz.func175,Tryz.ntmps175
 repeat' (first
  | refine X8 ?_|refine XZ 2 ?_;clear hS;intro g2 w hS|refine It 4 ?_;clear hS;intro g4 w hS|refine AG ?_;go_step|fail)
 refine AP [6] (fun w=>St W w [blk g2 [.pointer (some ⟨gc,0,none⟩), .pointer (some ⟨gr,0,none⟩)]]) AA ?_
 replace hS:=hS.drew
 focus
  refine BZ 0 BN (V.fieldAddr J0 rfl A7) ?_;go_step
  refine dG 1 [3,6,7,8,9,10,11] ?_
  refine AZ 2 ?_
  refine BZ 4 BN (V.fieldAddr IG rfl A7) ?_;go_step
  refine eZ 5 [6,7,8,9,10,11] ?_
  refine Av 3 ?_
  refine AY (f:=109) rfl Tryz.call109 (I3 W _ _ _ gc p1 p2 b hS AL) ?_;rintro e w ⟨rfl,hE⟩;replace hS:=hS.ext hE;clear hE;rw [HGB.out];refine ⟨_,rfl,?_⟩
  refine ⟨fun _ _=>hS.sub AV,?_⟩
  refine AI ?_
  go_step
  refine Av 6 ?_
  refine AY (f:=176) rfl Tryz.call176 (FR W _ _ _ _ gb gr n c i ad L l hS AL AL HLt.out hn hi) ?_;clear hS;rw [HG.out];rintro e w ⟨rfl,hgi,hS⟩;dsimp only at hgi hS;refine ⟨_,rfl,?_⟩
  refine ⟨fun h=>absurd (by decide) h,?_⟩
  refine AI ?_
  go_step
  refine AZ 7 ?_
  refine Y2 8 ?_
  refine Y2 9 ?_
  refine AZ 10 ?_
  refine AZ 11 ?_
  refine AE AA ?_ _
 all_goals
  cases b
  ·have hk1:=AD (show sy%16=(k:Int) from HK.out)
   have hk2:=hkb.2 rfl
   clear hkb
   repeat' (first
    | refine X1 ?_|refine X4 ?_|refine AG ?_;go_step|fail)
   all_goals (try exact AR)
   repeat' (first
    | refine bA 27 ?_|refine X1 ?_|refine dE 28 ?_|refine It 8 ?_;clear hS;intro g8 w hS|refine Il ?_;clear hS;intro w hS|refine AG ?_;go_step|fail)
   repeat' (first
    | refine X1 ?_|refine Iu ?_|refine Jt 34 ?_ ?_<;>intro hB<;>(try exact AR)<;>go_step|refine KL 37 ?_ ?_<;>intro hB<;>(try exact Jn hB)<;>go_step|refine RU ?_|refine H3 ?_|refine X9 ?_|refine AG ?_;go_step|fail)
   all_goals (try exact AR)
   repeat' (first
    | (refine AQ 50 ?_);refine AM (f:=90) Tryz.call90 AA ?_;refine ⟨_,(Dl W _ _ _ gr n c gi k ad l hS AL HLt.out hn hgi (by omega)),?_⟩;rintro e w ⟨_,hq⟩;obtain ⟨rfl,hS2⟩:=hq (by omega);clear hq hS;have hS:=hS2;clear hS2;refine Ac ?_;go_step|refine X0 ?_|refine bL ?_|refine RU ?_|refine X6 ?_|refine RW ?_|refine bQ ?_|refine X9 ?_|refine AG ?_;go_step|fail)
   all_goals (try exact AR)
   repeat' (first
    | refine X8 ?_|refine bM ?_|refine cr ?_;clear hS;intro w hS|refine RV ?_|refine Il ?_;clear hS;intro w hS|refine AG ?_;go_step|fail)
   refine AK (xs:=[_,_]) rfl (.cons (AC.blk hS rfl (AO (n:=3) rfl) AL rfl) (.cons (AC.tmp rfl) (.nil))) (by simp) rfl ?_
   exact ⟨rfl,HC.out _ _ _ (by omega) (hS.sub AV)⟩
  obtain rfl:sy=(k:Int):=HK.out
  have hk2:=hkb.1
  clear hkb
  repeat' (first
   | refine X1 ?_|refine X4 ?_|refine AG ?_;go_step|fail)
  all_goals (try exact AR)
  repeat' (first
   | refine az 27 ?_|go_skip|refine X1 ?_|refine H7 ?_|refine Jt 34 ?_ ?_<;>intro hB<;>(try exact AR)<;>go_step|refine KL 37 ?_ ?_<;>intro hB<;>(try exact Jn hB)<;>go_step|refine dE 28 ?_|refine RU ?_|refine It 8 ?_;clear hS;intro g8 w hS|refine Il ?_;clear hS;intro w hS|refine cr ?_;clear hS;intro w hS|refine X9 ?_|refine AG ?_;go_step|fail)
  all_goals (try exact AR)
  repeat' (first
   | (refine AQ 50 ?_);refine AM (f:=90) Tryz.call90 AA ?_;refine ⟨_,(Dl W _ _ _ gr n c gi k ad l hS AL HLt.out hn hgi (by omega)),?_⟩;rintro e w ⟨_,hq⟩;obtain ⟨rfl,hS2⟩:=hq (by omega);clear hq hS;have hS:=hS2;clear hS2;refine Ac ?_;go_step|refine X0 ?_|refine bL ?_|refine RU ?_|refine X6 ?_|refine RW ?_|refine bQ ?_|refine X9 ?_|refine AG ?_;go_step|fail)
  all_goals (try exact AR)
  repeat' (first
   | refine X8 ?_|refine bM ?_|refine cr ?_;clear hS;intro w hS|refine RV ?_|refine Il ?_;clear hS;intro w hS|refine AG ?_;go_step|fail)
  refine AK (xs:=[_,_]) rfl (.cons (AC.blk hS rfl (AO (n:=3) rfl) AL rfl) (.cons (AC.tmp rfl) (.nil))) (by simp) rfl ?_
  exact ⟨rfl,HC.out _ _ _ (by omega) (hS.sub AV)⟩
def Bd(b:List Int):Prop:=b.length=64∧∀i,i<64→ -2047≤AJ b i∧AJ b i≤2047
theorem Bd.set{b:List Int}(h:Bd b)(i:Nat)(n:Int)(hn: -2047≤n∧n≤2047)(hi:i<64):Bd (b.set i n):=by
 refine ⟨by rw [List.length_set];exact h.1,fun j hj=>?_⟩
 rw [CN _ _ _ _ (by rw [h.1];exact hi)]
 split
 ·exact hn
 exact h.2 j hj
theorem Yr(t:CH)(h:Ll t=false): -2047≤C0 t∧C0 t≤2047:=by
 obtain ⟨t0,t1,t2⟩:=t
 have hiff:=RZ t0 t1 t2
 rw [h] at hiff
 by_cases hB:PH t1 t2=true
 ·have h11:t1≤11:=by
   by_cases h1:t1≤11
   ·exact h1
   have:=hiff.2 (.inr (.inl (by omega)));cases this
  have:=(J3 t0 t1 t2 hB).2.2 h11
  omega
 have:=hiff.2 (.inl (by simpa using hB));cases this
theorem Qs(i:Nat):AJ (List.replicate 64 (0:Int)) i=0:=by
 unfold AJ List.getD
 rw [List.getElem?_replicate]
 split<;>rfl
theorem Ta(n:Int)(h: -2047≤n∧n≤2047):Bd (B6 n):=by
 unfold B6
 exact Bd.set ⟨List.length_replicate,fun i hi=>by rw [Qs];omega⟩ 0 n h (by omega)
theorem Qv{before:Int}{t:CH}(h:Bl before t=true): -2047≤before+C0 t∧before+C0 t≤2047:=by
 unfold Bl at h
 simp only [Bool.and_eq_true,decide_eq_true_eq] at h
 exact h.2
def Pz{σ:Type}(next:σ→Bool→CH×Int×σ):List (CH×Bool)→σ→σ→Prop
 | [],s,s'=>s=s'
 | x::r,s,s'=>(next s x.2).1=x.1∧(next s x.2).2.1=0∧Pz next r (next s x.2).2.2 s'
theorem Pz.app{σ:Type}{next:σ→Bool→CH×Int×σ}:∀{A B:List (CH×Bool)} {s s1 s2:σ},Pz next A s s1→Pz next B s1 s2→Pz next (A++B) s s2
 | [],B,s,s1,s2,h,k=>by rw [show s=s1 from h];exact k
 | x::A,B,s,s1,s2,h,k=>⟨h.1,h.2.1,Pz.app h.2.2 k⟩
theorem Ok{σ:Type}{next:σ→Bool→CH×Int×σ}:∀{A:List CH} {s s':σ},E8 next A s s'→Pz next (A.map fun x=>(x,false)) s s'
 | [],s,s',h=>h
 | t::A,s,s',h=>⟨h.1,h.2.1,Ok h.2.2⟩
section
variable{σ:Type}(next:σ→Bool→CH×Int×σ)
theorem Kn:∀(f at_:Nat)(b:List Int)(all:List CH)(s:σ),(BH next f at_ b all s).1=0→Bd b→
 ∃c,(BH next f at_ b all s).2.2.1=all++c∧E8 next c s (BH next f at_ b all s).2.2.2∧Bd (BH next f at_ b all s).2.1
 | 0,at_,b,all,s,h,hb=>⟨[],by simp [BH],by simp [BH,E8],hb⟩
 | f+1,at_,b,all,s,h,hb=>by
   rw [BH] at h⊢
   by_cases h64:64≤at_
   ·rw [if_pos h64] at h⊢
    exact ⟨[],by simp,rfl,hb⟩
   rw [if_neg h64] at h⊢
   by_cases he:(next s false).2.1≠0
   ·rw [if_pos he] at h;exact absurd h he
   rw [if_neg he] at h⊢
   have he0:(next s false).2.1=0:=by simpa using he
   by_cases hbad:Ll (next s false).1=true
   ·rw [if_pos hbad] at h;cases h
   rw [if_neg hbad] at h⊢
   by_cases h0:(next s false).1.1=0
   ·rw [if_pos h0] at h⊢
    exact ⟨[(next s false).1],rfl,⟨rfl,he0,rfl⟩,hb⟩
   rw [if_neg h0] at h⊢
   by_cases h240:(next s false).1.1=240
   ·rw [if_pos h240] at h⊢
    by_cases h16:64<at_+16
    ·rw [if_pos h16] at h;cases h
    rw [if_neg h16] at h⊢
    obtain ⟨c,k1,k2,k3⟩:=Kn f _ b _ _ h hb
    exact ⟨(next s false).1::c,by rw [k1,List.append_assoc];rfl,⟨rfl,he0,k2⟩,k3⟩
   rw [if_neg h240] at h⊢
   by_cases hq:64≤at_+(next s false).1.1.toNat/16
   ·rw [if_pos hq] at h;cases h
   rw [if_neg hq] at h⊢
   obtain ⟨c,k1,k2,k3⟩:=Kn f _ _ _ _ h (hb.set _ _ (Yr _ (by simpa using hbad)) (by omega))
   exact ⟨(next s false).1::c,by rw [k1,List.append_assoc];rfl,⟨rfl,he0,k2⟩,k3⟩
theorem R4(before:Int)(s:σ)(h:(DX next before s).1=0):∃z,Bd z∧(DX next before s).2.1=Cc z∧BO before z=(DX next before s).2.2.1∧Pz next (El (BO before z)) s (DX next before s).2.2.2:=by
 unfold DX at h⊢
 by_cases h1:(next s true).2.1≠0
 ·rw [if_pos h1] at h;exact absurd h h1
 rw [if_neg h1] at h⊢
 by_cases h2:Bl before (next s true).1=false
 ·rw [if_pos h2] at h;cases h
 rw [if_neg h2] at h⊢
 have h2':Bl before (next s true).1=true:=by simpa using h2
 obtain ⟨q,hq⟩:∃q,BH next 64 1 (B6 (before+C0 (next s true).1)) [(next s true).1] (next s true).2.2=q:=⟨_,rfl⟩
 rw [hq] at h⊢
 by_cases h3:q.1≠0
 ·rw [if_pos h3] at h;exact absurd h h3
 rw [if_neg h3] at h⊢
 by_cases h4:BO before q.2.1=q.2.2.1
 ·obtain ⟨zf,hzf⟩:∃y,Cc q.2.1=y:=⟨_,rfl⟩
  rw [if_pos h4,hzf]
  have hl:=Kn next 64 1 (B6 (before+C0 (next s true).1)) [(next s true).1] (next s true).2.2 (by rw [hq];simpa using h3) (Ta _ (Qv h2'))
  rw [hq] at hl
  obtain ⟨c,k1,k2,k3⟩:=hl
  dsimp only
  refine ⟨q.2.1,k3,hzf.symm,h4,?_⟩
  rw [h4,k1]
  exact ⟨rfl,by simpa using h1,Ok k2⟩
 rw [if_neg h4] at h;cases h
theorem Oy(before:Int)(s:σ):(DX next before s).2.1.length=64:=by
 have hz:(List.replicate 64 (0:Int)).length=64:=List.length_replicate
 have key:∀q:Int×List Int×List CH×σ,((if q.1≠0 then (q.1,List.replicate 64 0,[],q.2.2.2) else if BO before q.2.1=q.2.2.1 then (0,Cc q.2.1,q.2.2.1,q.2.2.2) else (4,List.replicate 64 0,[],q.2.2.2)):Int×List Int×List CH×σ).2.1.length=64:=fun q=>by
  by_cases h1:q.1≠0
  ·rw [if_pos h1];exact hz
  rw [if_neg h1]
  by_cases h2:BO before q.2.1=q.2.2.1
  ·rw [if_pos h2]
   have h3:=EL q.2.1
   generalize Cc q.2.1=y at h3⊢
   exact h3
  rw [if_neg h2];exact hz
 unfold DX
 by_cases h1:(next s true).2.1≠0
 ·rw [if_pos h1];exact hz
 rw [if_neg h1]
 by_cases h2:Bl before (next s true).1=false
 ·rw [if_pos h2];exact hz
 rw [if_neg h2];exact key _
def EP:Nat→Int→σ→Int×List Int×σ
 | 0,_,s=>(0,[],s)
 | f+1,p,s=>if (DX next p s).1≠0 then ((DX next p s).1,[],(DX next p s).2.2.2) else
   ((EP f (AJ (DX next p s).2.1 0) (DX next p s).2.2.2).1,(DX next p s).2.1++(EP f (AJ (DX next p s).2.1 0) (DX next p s).2.2.2).2.1,(EP f (AJ (DX next p s).2.1 0) (DX next p s).2.2.2).2.2)
theorem VQ(before:Int)(s:σ)(h:(DX next before s).1=0):Bd (DX next before s).2.1:=by
 obtain ⟨z,h1,h2,_⟩:=R4 next before s h
 rw [h2]
 exact ⟨EL z,fun i hi=>La z h1.2 i hi⟩
theorem Rl:∀(f:Nat)(p:Int)(s:σ),(EP next f p s).1=0→(EP next f p s).2.1.length=f*64
 | 0,p,s,_=>by simp [EP]
 | f+1,p,s,h=>by
   rw [EP] at h⊢
   by_cases h1:(DX next p s).1≠0
   ·rw [if_pos h1] at h;exact absurd h h1
   rw [if_neg h1] at h⊢
   dsimp only at h⊢
   rw [List.length_append,Oy,Rl f _ _ h];omega
end
def Ef(L1 L2:List (Int×Nat×Nat))(T:List (CH×Bool)):Prop:=∀x∈T,(symW (if x.2 then L1 else L2) x.1.1).isSome=true
theorem GU(L1 L2:List (Int×Nat×Nat)):∀(T:List (CH×Bool))(bs:List Bool),Ef L1 L2 T→Dk (BK L1 L2) T bs=(0,bs++T.flatMap (BR L1 L2))
 | [],bs,_=>by simp [Dk]
 | x::T,bs,h=>by
   have h1:BK L1 L2 bs x.1 x.2=(0,bs++BR L1 L2 x):=by unfold BK;rw [if_pos (h x (by simp))]
   rw [Dk,h1,if_pos rfl,GU L1 L2 T _ (fun y hy=>h y (by simp [hy])),List.flatMap_cons,List.append_assoc]
theorem NB(L1 L2:List (Int×Nat×Nat)):∀(T:List (CH×Bool))(bs:List Bool),¬Ef L1 L2 T→(Dk (BK L1 L2) T bs).1=5
 | [],bs,h=>absurd (fun x hx=>(by cases hx)) h
 | x::T,bs,h=>by
   rw [Dk]
   by_cases hx:(symW (if x.2 then L1 else L2) x.1.1).isSome=true
   ·have h1:BK L1 L2 bs x.1 x.2=(0,bs++BR L1 L2 x):=by unfold BK;rw [if_pos hx]
    rw [h1,if_pos rfl]
    exact NB L1 L2 T _ fun hw=>h fun y hy=>by
     rcases List.mem_cons.1 hy with rfl|hy
     ·exact hx
     exact hw y hy
   have h1:BK L1 L2 bs x.1 x.2=(5,bs):=by unfold BK;rw [if_neg hx]
   rw [h1];rfl
theorem My(l:List Nat)(i m:Nat)(h:i+m≤8*l.length):(BE l).drop i=Ax m (BB l i m)++(BE l).drop (i+m):=by
 have h1:(((BE l).drop i).take m).length=m:=by rw [List.length_take,List.length_drop,CR];omega
 have h2:=FL (((BE l).drop i).take m)
 rw [h1] at h2
 unfold BB
 rw [h2,←List.drop_drop,List.take_append_drop]
theorem Vw(l:List Nat)(i m v:Nat)(rest:List Bool)(h:(BE l).drop i=Ax m v++rest)(hv:v<2^m):BB l i m=v∧(BE l).drop (i+m)=rest∧(i≤8*l.length→i+m≤8*l.length):=by
 refine ⟨?_,?_,fun hi=>?_⟩
 ·unfold BB
  rw [h,List.take_left' (Ao m v),Do m v hv]
 ·rw [←List.drop_drop,h,List.drop_left' (Ao m v)]
 have:=congrArg List.length h
 rw [List.length_drop,CR,List.length_append,Ao] at this
 omega
def Yt(x:CH×Bool):Prop:=x.1.2.1=B9 x.2 x.1.1∧(0≤x.1.2.1∧x.1.2.1≤12)∧(x.2=false→x.1.2.1≤11)∧0≤x.1.2.2∧x.1.2.2<2^x.1.2.1.toNat
section
variable{L1 L2:List (Int×Nat×Nat)}(h1:Cj L1)(h2:Cj L2)(l:List Nat)
include h1 h2
theorem Za(i:Nat)(x:CH×Bool)(s':Nat)(ht:(Aq L1 L2 l i x.2).1=x.1)(he:(Aq L1 L2 l i x.2).2.1=0)(hs:(Aq L1 L2 l i x.2).2.2=s'):
 s'≤8*l.length∧(symW (if x.2 then L1 else L2) x.1.1).isSome=true∧(BE l).drop i=BR L1 L2 x++(BE l).drop s':=by
 obtain ⟨t,b⟩:=x
 dsimp only at ht he hs⊢
 have hG:Cj (if b then L1 else L2):=by cases b<;>assumption
 unfold BR
 dsimp only
 unfold Aq at ht he hs
 generalize (if b then L1 else L2)=L at*
 by_cases hg:(Gq L l i 16 0).2.1≠0
 ·rw [if_pos hg] at he;exact absurd he hg
 rw [if_neg hg] at ht he hs
 obtain ⟨m,hm1,hm2,hm3,hm4,hm5⟩:=Zy (L:=L) l i 16 0 (by simpa using hg)
 obtain ⟨⟨sy,ge,gi⟩,hG0⟩:∃y,Gq L l i 16 0=y:=⟨_,rfl⟩
 rw [hG0] at ht he hs hm3 hm5
 dsimp only at ht he hs hm3 hm5
 by_cases hw:12<B9 b sy∨(b=false∧11<B9 b sy)
 ·rw [if_pos hw] at he;cases he
 rw [if_neg hw] at ht he hs
 by_cases hsh:8*l.length<gi+(B9 b sy).toNat
 ·rw [if_pos hsh] at he;cases he
 rw [if_neg hsh] at ht he hs
 dsimp only at ht he hs
 subst ht;subst hs
 dsimp only
 refine ⟨by omega,by rw [hG.symW hm5];rfl,?_⟩
 rw [Wr hG hm5,My l i m hm4,List.append_assoc,←hm3,Int.toNat_natCast,←My l gi _ (by omega)]
theorem ZZ(i:Nat)(x:CH×Bool)(rest:List Bool)(hi:i≤8*l.length)(hx:Yt x)(hw:(symW (if x.2 then L1 else L2) x.1.1).isSome=true)(hb:(BE l).drop i=BR L1 L2 x++rest):
 Aq L1 L2 l i x.2=(x.1,0,i+(BR L1 L2 x).length)∧(BE l).drop (i+(BR L1 L2 x).length)=rest∧i+(BR L1 L2 x).length≤8*l.length:=by
 obtain ⟨⟨t0,t1,t2⟩,b⟩:=x
 obtain ⟨k1,k2,k3,k4,k5⟩:=hx
 dsimp only at k1 k2 k3 k4 k5 hw
 have hG:Cj (if b then L1 else L2):=by cases b<;>assumption
 unfold BR at hb⊢
 dsimp only at hb⊢
 unfold Aq
 generalize (if b then L1 else L2)=L at*
 obtain ⟨⟨m,cd⟩,hy⟩:=Option.isSome_iff_exists.1 hw
 have hm:(t0,m,cd)∈L:=Ed hy
 have hlong:=hG.long _ hm
 dsimp only at hlong
 have hwb:wb L t0=Ax m cd:=Wr hG hm
 obtain ⟨k,rfl⟩:∃k:Nat,t1=(k:Int):=⟨t1.toNat,by omega⟩
 obtain ⟨v,rfl⟩:∃v:Nat,t2=(v:Int):=⟨t2.toNat,by omega⟩
 rw [Int.toNat_natCast] at k5
 have hv:v<2^k:=by exact_mod_cast k5
 rw [hwb,Int.toNat_natCast,Int.toNat_natCast,List.append_assoc] at hb
 obtain ⟨n1,n2,n3⟩:=Vw l i m cd _ hb (by omega)
 obtain ⟨n4,n5,n6⟩:=Vw l (i+m) k v _ n2 hv
 have hgt:=Yh hG l i (t0,m,cd) hm (n3 hi) n1 16 0 (by omega) (by show 0<m;omega)
 dsimp only at hgt
 rw [hgt]
 dsimp only
 have hno:¬(12<(k:Int)∨(b=false∧11<(k:Int))):=by
  rintro (h|⟨h,h'⟩)
  ·omega
  have:=k3 h;omega
 rw [if_neg (by simp),←k1,if_neg hno,Int.toNat_natCast,if_neg (by have:=n6 (n3 hi);omega),n4,hwb,Int.toNat_natCast,List.length_append,Ao,Ao,←Nat.add_assoc]
 exact ⟨rfl,n5,n6 (n3 hi)⟩
theorem Oj:∀(T:List (CH×Bool))(i i':Nat),Pz (Aq L1 L2 l) T i i'→i≤8*l.length→i'≤8*l.length∧Ef L1 L2 T∧(BE l).drop i=T.flatMap (BR L1 L2)++(BE l).drop i'
 | [],i,i',h,hi=>by rw [show i=i' from h] at hi⊢;exact ⟨hi,fun x hx=>(by cases hx),by simp⟩
 | x::T,i,i',h,hi=>by
   obtain ⟨k1,k2,k3⟩:=Za h1 h2 l i x _ h.1 h.2.1 rfl
   obtain ⟨m1,m2,m3⟩:=Oj T _ i' h.2.2 k1
   refine ⟨m1,fun y hy=>?_,by rw [k3,m3,List.flatMap_cons,List.append_assoc]⟩
   rcases List.mem_cons.1 hy with rfl|hy
   ·exact k2
   exact m2 y hy
theorem Oi:∀(T:List (CH×Bool))(i:Nat)(rest:List Bool),i≤8*l.length→(∀x∈T,Yt x)→Ef L1 L2 T→(BE l).drop i=T.flatMap (BR L1 L2)++rest→
 Pz (Aq L1 L2 l) T i (i+(T.flatMap (BR L1 L2)).length)∧(BE l).drop (i+(T.flatMap (BR L1 L2)).length)=rest∧i+(T.flatMap (BR L1 L2)).length≤8*l.length
 | [],i,rest,hi,_,_,hb=>by
   simp only [List.flatMap_nil,List.nil_append,List.length_nil,Nat.add_zero] at hb⊢
   exact ⟨rfl,hb,hi⟩
 | x::T,i,rest,hi,hx,hw,hb=>by
   rw [List.flatMap_cons,List.append_assoc] at hb
   obtain ⟨k1,k2,k3⟩:=ZZ h1 h2 l i x _ hi (hx x (by simp)) (hw x (by simp)) hb
   obtain ⟨m1,m2,m3⟩:=Oi T _ rest k3 (fun y hy=>hx y (by simp [hy])) (fun y hy=>hw y (by simp [hy])) k2
   rw [List.flatMap_cons,List.length_append,←Nat.add_assoc]
   exact ⟨⟨by rw [k1],by rw [k1],by rw [k1];exact m1⟩,m2,m3⟩
end
def UX:Int→List Int→Nat→List (CH×Bool)
 | _,_,0=>[]
 | p,l,f+1=>El (Fm p (Bi l 64 0))++UX (AJ (Bi l 64 0) 0) (l.drop 64) f
theorem GD(l:List Int)(k j:Nat):Bi (l.drop (k*64)) 64 j=Bi l 64 (k+j):=by
 unfold Bi
 rw [List.drop_drop,←Nat.add_mul]
theorem aC(l:List Int):∀(f k:Nat),DA l k f=UX (QD l k) (l.drop (k*64)) f
 | 0,k=>rfl
 | f+1,k=>by
   rw [DA,UX,aC l f (k+1),GD,OO,List.drop_drop,show k*64+64=(k+1)*64 by omega]
   rfl
theorem Nv:∀(l:List Int)(r:Nat),(∀x∈l,-2047≤x∧x≤2047)→∀t∈Ht r l,Yt (t,false)
 | [],r,_,t,ht=>by
   unfold Ht at ht
   split at ht
   ·simp at ht;subst ht;unfold Yt;decide
   simp at ht
 | n::l,r,h,t,ht=>by
   unfold Ht at ht
   split at ht
   ·exact Nv l (r+1) (fun x hx=>h x (by simp [hx])) t ht
   rcases List.mem_append.1 ht with ht|ht
   ·rw [List.eq_of_mem_replicate ht];unfold Yt;decide
   rcases List.mem_cons.1 ht with rfl|ht
   ·have h1:=Se n (by have:=h n (by simp);omega)
    have h2:=GB n
    unfold Yt GI B9
    dsimp only
    rw [Int.toNat_natCast]
    refine ⟨?_,by omega,fun _=>by omega,h2.2.1,by exact_mod_cast h2.2.2⟩
    rw [if_neg (by decide)]
    omega
   exact Nv l 0 (fun x hx=>h x (by simp [hx])) t ht
theorem Vn{p:Int}{z:List Int}(hp: -2047≤p∧p≤2047)(hz:Bd z):∀x∈El (BO p z),Yt x:=by
 intro x hx
 unfold BO El at hx
 rcases List.mem_cons.1 hx with rfl|hx
 ·have h0:=hz.2 0 (by omega)
  have h1:=Sd (AJ z 0-p) (by omega)
  have h2:=GB (AJ z 0-p)
  unfold Yt GI B9
  dsimp only
  rw [Int.toNat_natCast]
  refine ⟨?_,by omega,fun h=>(by cases h),h2.2.1,by exact_mod_cast h2.2.2⟩
  rw [if_pos rfl]
  omega
 obtain ⟨t,ht,rfl⟩:=List.mem_map.1 hx
 refine Nv _ 0 (fun y hy=>?_) t ht
 obtain ⟨i,hi,rfl⟩:=List.mem_iff_getElem.1 (List.mem_of_mem_drop hy)
 have:=hz.2 i (by rw [←hz.1];exact hi)
 simpa [AJ,List.getD,hi] using this
theorem Rc{x:List Int}(hx:x.length=64)(h:Ds x=true):Bd (FH x)∧Bd x:=by
 have h1:=(BF _ _ _).1 h
 rw [hx] at h1
 exact ⟨⟨Cy x,fun i hi=>by rw [Gp _ i hi];exact h1 _ (Lc i hi)⟩,hx,h1⟩
theorem bk{x:List Int}(h:Bd x):Ds x=true:=(BF _ _ _).2 (by rw [h.1];exact h.2)
theorem Nx{p:Int}{x:List Int}(hp: -2047≤p∧p≤2047)(h:Bd x):Fm p x=BO p (FH x):=by
 unfold Fm
 rw [if_pos (Zc h.1 hp h.2)]
theorem Sf:∀(f:Nat)(p:Int)(l:List Int),(-2047≤p∧p≤2047)→l.length=f*64→(∀k,k<f→Ds (Bi l 64 k)=true)→∀x∈UX p l f,Yt x
 | 0,p,l,_,_,_,x,hx=>by cases hx
 | f+1,p,l,hp,hl,hb,x,hx=>by
   have hs:(Bi l 64 0).length=64:=CP l 64 0 (f+1) hl (by omega)
   obtain ⟨b1,b2⟩:=Rc hs (hb 0 (by omega))
   rw [UX,Nx hp b2] at hx
   rcases List.mem_append.1 hx with hx|hx
   ·exact Vn hp b1 x hx
   refine Sf f _ (l.drop 64) (b2.2 0 (by omega)) (by rw [List.length_drop];omega) (fun k hk=>?_) x hx
   have:=GD l 1 k
   rw [Nat.one_mul] at this
   rw [this]
   exact hb _ (by omega)
theorem MN{σ:Type}{next:σ→Bool→CH×Int×σ}:∀{A B:List (CH×Bool)} {s s2:σ},Pz next (A++B) s s2→∃s1,Pz next A s s1∧Pz next B s1 s2
 | [],B,s,s2,h=>⟨s,rfl,h⟩
 | x::A,B,s,s2,h=>by
   obtain ⟨s1,k1,k2⟩:=MN h.2.2
   exact ⟨s1,⟨h.1,h.2.1,k1⟩,k2⟩
theorem Ka{σ:Type}{next:σ→Bool→CH×Int×σ}:∀{A:List CH} {s s':σ},Pz next (A.map fun x=>(x,false)) s s'→E8 next A s s'
 | [],s,s',h=>h
 | t::A,s,s',h=>⟨h.1,h.2.1,Ka h.2.2⟩
section
variable{σ:Type}(next:σ→Bool→CH×Int×σ)
theorem Rk:∀(f:Nat)(p:Int)(s:σ),(EP next f p s).1=0→(-2047≤p∧p≤2047)→Pz next (UX p (EP next f p s).2.1 f) s (EP next f p s).2.2∧∀k,k<f→Ds (Bi (EP next f p s).2.1 64 k)=true
 | 0,p,s,_,_=>⟨rfl,fun k hk=>by omega⟩
 | f+1,p,s,h,hp=>by
   rw [EP] at h⊢
   by_cases h1:(DX next p s).1≠0
   ·rw [if_pos h1] at h;exact absurd h h1
   rw [if_neg h1] at h⊢
   dsimp only at h⊢
   obtain ⟨z,hz,e1,e2,e3⟩:=R4 next p s (by simpa using h1)
   have hb:=VQ next p s (by simpa using h1)
   obtain ⟨F,hF⟩:∃F,DX next p s=F:=⟨_,rfl⟩
   rw [hF] at h h1 e1 e2 e3 hb⊢
   obtain ⟨E,b0,all,s1⟩:=F
   dsimp only at h h1 e1 e2 e3 hb⊢
   obtain ⟨k1,k2⟩:=Rk f (AJ b0 0) s1 h (hb.2 0 (by omega))
   have hs0:Bi (b0++(EP next f (AJ b0 0) s1).2.1) 64 0=b0:=by
    unfold Bi
    rw [Nat.zero_mul,List.drop_zero,List.take_left' hb.1]
   have hz2:FH b0=z:=by rw [e1];exact JI z hz.1
   refine ⟨?_,fun k hk=>?_⟩
   ·rw [UX,hs0,List.drop_left' hb.1,Nx hp hb,hz2]
    exact e3.app k1
   cases k with
   | zero=>rw [hs0];exact bk hb
   | succ k=>
     have:=GD (b0++(EP next f (AJ b0 0) s1).2.1) 1 k
     rw [Nat.one_mul,List.drop_left' hb.1] at this
     rw [show k+1=1+k by omega,←this]
     exact k2 k (by omega)
theorem VC:∀(f:Nat)(p:Int)(l:List Int)(s s':σ),l.length=f*64→(-2047≤p∧p≤2047)→(∀k,k<f→Ds (Bi l 64 k)=true)→Pz next (UX p l f) s s'→EP next f p s=(0,l,s')
 | 0,p,l,s,s',hl,_,_,h=>by
   have:l=[]:=List.eq_nil_of_length_eq_zero (by omega)
   rw [EP,this,show s=s' from h]
 | f+1,p,l,s,s',hl,hp,hb,h=>by
   have hs:(Bi l 64 0).length=64:=CP l 64 0 (f+1) hl (by omega)
   obtain ⟨b1,b2⟩:=Rc hs (hb 0 (by omega))
   rw [UX,Nx hp b2] at h
   obtain ⟨s1,m1,m2⟩:=MN h
   have hfrm:DX next p s=(0,Bi l 64 0,BO p (FH (Bi l 64 0)),s1):=by
    have:=VR (next:=next) p (FH (Bi l 64 0)) (Cy _) hp b1.2 s s1 m1.1 m1.2.1 (Ka m1.2.2)
    rw [UT _ hs] at this
    exact this
   have ih:=VC f (AJ (Bi l 64 0) 0) (l.drop 64) s1 s' (by rw [List.length_drop];omega) (b2.2 0 (by omega)) (fun k hk=>by
    have:=GD l 1 k
    rw [Nat.one_mul] at this
    rw [this]
    exact hb _ (by omega)) m2
   rw [EP,hfrm]
   dsimp only
   rw [if_neg (by simp),ih]
   dsimp only
   rw [show Bi l 64 0=l.take 64 by unfold Bi;simp,List.take_append_drop]
end
def QM(L1 L2:List (Int×Nat×Nat))(l:List Nat)(n:Nat):Int×List Int:=
 if (EP (Aq L1 L2 l) n 0 0).1≠0 then ((EP (Aq L1 L2 l) n 0 0).1,[]) else
 if 8*l.length-(EP (Aq L1 L2 l) n 0 0).2.2≤7∧BB l (EP (Aq L1 L2 l) n 0 0).2.2 (8*l.length-(EP (Aq L1 L2 l) n 0 0).2.2)=2^(8*l.length-(EP (Aq L1 L2 l) n 0 0).2.2)-1 then (0,(EP (Aq L1 L2 l) n 0 0).2.1) else (4,[])
theorem LJ(l:List Int)(n:Nat):DA l 0 n=UX 0 l n:=by rw [aC,Nat.zero_mul,List.drop_zero];rfl
theorem RI{a b:List Nat}(ha:∀x∈a,x<256)(hb:∀x∈b,x<256)(h:BE a=BE b):a=b:=by
 have hl:a.length=b.length:=by have:=congrArg List.length h;rw [CR,CR] at this;omega
 rw [←IQ a ha,←IQ b hb,h,hl]
theorem PJ(m:Nat):Ax m (2^m-1)=List.replicate m true:=by
 refine Ys _ _ (by rw [Ao,List.length_replicate]) ?_
 rw [Do _ _ (by have:=Nat.two_pow_pos m;omega)]
 induction m with
 | zero=>rfl
 | succ m ih=>
   rw [List.replicate_succ',IO,←ih,Nat.pow_succ]
   have:=Nat.two_pow_pos m
   simp
   omega
theorem VB{L1 L2:List (Int×Nat×Nat)}(h1:Cj L1)(h2:Cj L2){l:List Int}{n:Nat}(hl:l.length=n*64)(hb:Aw l n=true)(hw:Ef L1 L2 (DA l 0 n)):
 QM L1 L2 (bytesOf ((DA l 0 n).flatMap (BR L1 L2))) n=(0,l):=by
 have hbk:∀k,k<n→Ds (Bi l 64 k)=true:=fun k hk=>DZ hb hk
 rw [LJ] at hw⊢
 obtain ⟨bits,hbits⟩:∃b,(UX 0 l n).flatMap (BR L1 L2)=b:=⟨_,rfl⟩
 have hu:=GJ bits
 obtain ⟨k1,k2,k3⟩:=Oi h1 h2 (bytesOf bits) (UX 0 l n) 0 (Bc bits) (by omega) (Sf n 0 l (by omega) hl hbk) hw (by rw [List.drop_zero,hu,hbits])
 rw [hbits,Nat.zero_add] at k1 k2 k3
 have hd:=VC (Aq L1 L2 (bytesOf bits)) n 0 l 0 bits.length hl (by omega) hbk k1
 rw [hbits]
 unfold QM
 rw [hd]
 dsimp only
 have hlen:8*(bytesOf bits).length=bits.length+(Bc bits).length:=by
  have:=congrArg List.length hu
  rw [CR,List.length_append] at this
  exact this
 have hpl:(Bc bits).length≤7:=by unfold Bc;rw [List.length_replicate];omega
 have hn:BB (bytesOf bits) bits.length (Bc bits).length=2^(Bc bits).length-1:=by
  unfold BB
  rw [k2,List.take_length,←Do (Bc bits).length (2^(Bc bits).length-1) (by have:=Nat.two_pow_pos (Bc bits).length;omega),PJ]
  congr 1
  unfold Bc
  rw [List.length_replicate]
 rw [if_neg (by simp),hlen,Nat.add_sub_cancel_left,if_pos ⟨hpl,hn⟩]
theorem TU{L1 L2:List (Int×Nat×Nat)}(h1:Cj L1)(h2:Cj L2){by_:List Nat}{n:Nat}(hby:∀x∈by_,x<256)(h:(QM L1 L2 by_ n).1=0):
 (QM L1 L2 by_ n).2.length=n*64∧Aw (QM L1 L2 by_ n).2 n=true∧Ef L1 L2 (DA (QM L1 L2 by_ n).2 0 n)∧bytesOf ((DA (QM L1 L2 by_ n).2 0 n).flatMap (BR L1 L2))=by_:=by
 unfold QM at h⊢
 by_cases he:(EP (Aq L1 L2 by_) n 0 0).1≠0
 ·rw [if_pos he] at h;exact absurd h he
 rw [if_neg he] at h⊢
 have he0:(EP (Aq L1 L2 by_) n 0 0).1=0:=by simpa using he
 obtain ⟨k1,k2⟩:=Rk (Aq L1 L2 by_) n 0 0 he0 (by omega)
 have hlen:=Rl (Aq L1 L2 by_) n 0 0 he0
 obtain ⟨⟨E,B,i⟩,hd⟩:∃d,EP (Aq L1 L2 by_) n 0 0=d:=⟨_,rfl⟩
 rw [hd] at h k1 k2 hlen⊢
 dsimp only at h k1 k2 hlen⊢
 by_cases hc:8*by_.length-i≤7∧BB by_ i (8*by_.length-i)=2^(8*by_.length-i)-1
 ·rw [if_pos hc]
  dsimp only
  obtain ⟨m1,m2,m3⟩:=Oj h1 h2 by_ _ 0 i k1 (by omega)
  refine ⟨hlen,?_,by rw [LJ];exact m2,?_⟩
  ·unfold Aw
   rw [List.all_eq_true]
   exact fun k hk=>k2 k (List.mem_range.1 hk)
  rw [LJ]
  refine RI (EO _) hby ?_
  rw [GJ,←List.drop_zero (l:=BE by_),m3]
  congr 1
  have h3:=My by_ i (8*by_.length-i) (by omega)
  rw [hc.2,PJ,List.drop_of_length_le (i:=i+(8*by_.length-i)) (by rw [CR];omega),List.append_nil] at h3
  rw [h3]
  unfold Bc
  congr 1
  have h4:=congrArg List.length m3
  rw [List.drop_zero,CR,List.length_append,List.length_drop,CR] at h4
  omega
 rw [if_neg hc] at h;cases h
structure CV(p:Prop):Prop where
 out:p
theorem V.mkIf{P:Program}{t ty:TypeId}{x:Operand}{a:Act}{v:Value}(hx:a.eval x=v)(hr:∀w:World,(Instr.makeInterface t v).run P w= .ok (.iface t v) w):DW P (.makeInterface t x) ty a (.iface t v):=fun d pos af g w=>by
 simp only [execOp,hx,Sem.run_bind,hr,Result.andThen_ok,Sem.run_pure]
def WS(W:World)(gc gr:Nat)(L1 L2:List (Int×Nat×Nat))(ad:Option Addr)(n c:Nat)(l:List Nat)(hL1:Cj L1)(hL2:Cj L2)(hl:∀x∈l,x<256)(hn:n≤1000000000000000000):dR W Nat where
 next:=Aq L1 L2 l
 res:=MC gc gr L1 L2 ad n c l
 tid:=140
 ptr:= .agg #[.pointer (some ⟨gc,0,none⟩), .pointer (some ⟨gr,0,none⟩)]
 f:=175
 inv:=fun b w=>by kernel_rfl
 call:=fun w rs rs' s b t0 t1 t2 er s' hS hp h=>Q6 W w rs rs' gc gr L1 L2 ad n c l s b t0 t1 t2 er s' hL1 hL2 hl hn hS hp h
theorem Jd{W:World}(w0:World)(rs rs':List Ar)(gc gr:Nat)(L1 L2:List (Int×Nat×Nat))(ad:Option Addr)(n c:Nat)(l:List Nat)(hL1:Cj L1)(hL2:Cj L2)(hl:∀x∈l,x<256)(hn:n≤1000000000000000000)(i:Nat)(p:Int)(hb: -2047≤p∧p≤2047)(hS:St W w0 rs)(hp:AT (MC gc gr L1 L2 ad n c l i) rs rs')(E:Int)(bl:List Int)(all:List CH)(i':Nat)(hF:DX (Aq L1 L2 l) p i=(E,bl,all,i')):
 Calls Tryz.prog 88 #[.int .i64 p, .iface 140 (.agg #[.pointer (some ⟨gc,0,none⟩), .pointer (some ⟨gr,0,none⟩)])] w0 fun e w=>∃ad2 c2 m,e= .returned (.tuple #[.agg (iv bl), .slice ad2 m c2, .int .i64 E])∧St W w (MC gc gr L1 L2 ad n c l i'::rs'):=by
 refine (VS (WS W gc gr L1 L2 ad n c l hL1 hL2 hl hn) w0 rs rs' i p hb hS hp).mono ?_
 rintro e w ⟨ad2,c2,rfl,hS2⟩
 have hq:DX (WS W gc gr L1 L2 ad n c l hL1 hL2 hl hn).next p i=(E,bl,all,i'):=hF
 rw [hq] at hS2⊢
 exact ⟨ad2,c2,_,rfl,hS2.drop⟩
theorem Wg{l:List Int}(h:∀x∈l,0≤x∧x<256):∀x∈Dg l,0≤x∧x<256:=by
 intro x hx
 unfold Dg Hl at hx
 obtain ⟨y,hy,hx⟩:=List.mem_flatMap.1 hx
 split at hx
 ·simp at hx
  rcases hx with rfl|rfl<;>omega
 simp at hx
 subst hx
 exact h x hy
def Fu(w0:World)(E:Int)(B:List Int)(e:Ending)(w:World):Prop:=
 ∃ao c m,B.length=m*64∧e= .returned (.tuple #[.slice ao m c, .int .i64 E])∧St w0 w [own 26 64 ao m c (B.map (Value.int .i64))]
theorem Ep{w0 w:World}{E:Int}{B:List Int}(E':Int)(h:E=E')(hB:B=[])(hE:Ai w0 w):Fu w0 E B (.returned (.tuple #[.slice none 0 0, .int .i64 E'])) w:=by
 subst h;subst hB
 exact ⟨none,0,0,rfl,rfl,(St.of_ext hE).nil _ _⟩
theorem cA{w0 w:World}{gc gr n c:Nat}{L1 L2:List (Int×Nat×Nat)}{ad:Option Addr}{l:List Nat}{rs:List Ar}{rs':List Ar}(h:St w0 w rs)(s:OH (Zv gc L1 L2::rd gr ad n c 0::own 5 1 ad n c (bv l)::rs') rs):St w0 w (MC gc gr L1 L2 ad n c l 0::rs'):=by
 refine St.close ⟨(),by omega⟩ ?_
 have h2:=h.sub s
 have h3:St w0 w (SQ gr ad n c 0 l::Zv gc L1 L2::rs'):=St.close () (by dsimp only [List.cons_append,List.nil_append];exact h2.sub AV)
 dsimp only [List.cons_append,List.nil_append]
 exact h3.sub AV
theorem MA(w0:World)(C1 C2 S1 S2:List Int)(a1 a2:Option Addr)(n1 n2 k1 k2:Nat)(hC1:Al C1 16)(hC2:Al C2 16)(hs1:Sl w0 1 (.slice a1 n1 k1) n1 (S1.map (Value.int .i64)))(hs2:Sl w0 1 (.slice a2 n2 k2) n2 (S2.map (Value.int .i64)))(hn1:n1≤9223372036854775807)(hn2:n2≤9223372036854775807)(ad:Option Addr)(nb c:Nat)(l:List Nat)(n:Nat)
 (hb:nb≤1000000000) (hv:Sl w0 1 (.slice ad nb c) nb ((Dg (Fo l)).map (Value.int .u8))) (hnil:ad=none→c=0) (hl:∀x∈l,x<256) (hml:∃m,w0.cell? ⟨0,0,none⟩=some (.int .i64 m)) (hn:n≤400) (hT1:Ay C1 S1=0) (hT2:Ay C2 S2=0) (R:Int×List Int) (hR:QM (Bh C1 S1) (Bh C2 S2) l n=R):
 Calls Tryz.prog 51 #[.agg (AF [.ints C1, .val (.slice a1 n1 k1), .ints C2, .val (.slice a2 n2 k2)]).toArray, .slice ad nb c, .int .i64 n] w0 (Fu w0 R.1 R.2):=by
 have hS:=St.start w0
 have HT1:=AD hT1
 have HT2:=AD hT2
 have HG1:=AD (Bb hT1)
 have HG2:=AD (Bb hT2)
 obtain ⟨L1,hL1⟩:∃L,Bh C1 S1=L:=⟨_,rfl⟩
 obtain ⟨L2,hL2⟩:∃L,Bh C2 S2=L:=⟨_,rfl⟩
 rw [hL1] at HG1
 rw [hL2] at HG2
 rw [hL1,hL2] at hR
 have HL1:=AD hL1
 have HL2:=AD hL2
 have HLt:=AD hl
 have HR:CV (QM L1 L2 l n=R):=⟨hR⟩
 obtain ⟨nl,hnl⟩:∃nl,l.length=nl:=⟨_,rfl⟩
 have hnlb:nl≤1000000000:=by
  have h1:=hv.1
  rw [List.length_map,J8,Fo,List.length_map] at h1
  omega
 have HNL:=AD hnl
 have hbyl:=AD (show (Fo l).length=nl by unfold Fo;rw [List.length_map];exact hnl)
 have HBI:=AD (show ∀x∈Dg (Fo l),0≤x∧x<256 from fun x hx=>Wg (fun y hy=>by
  obtain ⟨z,hz,rfl⟩:=List.mem_map.1 hy
  have:=hl z hz
  omega) x hx)
 have HBV:=AD (U5 l)
 have HPL:=AD (I6 w0 ad nb c (Dg (Fo l)) hv hnil HBI.out hb hml)
 clear hl hT1 hT2 hL1 hL2 hR hnl
 go_enter Tryz.func51,Tryz.ntmps51
 repeat' (first
  | (refine AQ 21 ?_);refine AM (f:=85) Tryz.call85 AA ?_;refine ⟨_,(II _ C1 C2 S1 S2 a1 a2 n1 n2 k1 k2 hC1 hC2 (hs1.ext hS.1) (hs2.ext hS.1) hn1 hn2 HT1.out HT2.out),?_⟩;rintro e w ⟨gc,rfl,hS2⟩;rw [HL1.out,HL2.out] at hS2;replace hS:=hS.call1 hS2;clear hS2;refine Ac ?_;go_step|refine X0 ?_|refine X6 ?_|refine X4 ?_|refine OI 3 ?_;clear hS;intro g3 w hS|refine P0 ?_|refine AG ?_;go_step|fail)
 all_goals (try exact AR)
 repeat' (first
  | refine X1 ?_|refine H7 ?_|refine Ei 28 ?_ ?_<;>intro hB<;>(try exact AR)<;>go_step|refine H3 ?_|refine AG ?_;go_step|fail)
 all_goals (try exact AR)
 repeat' (first
  | (refine AQ 35 ?_);refine AM (f:=86) Tryz.call86 AA ?_;refine ⟨_,(I6 w ad nb c (Dg (Fo l)) (hv.ext hS.1) hnil HBI.out hb (by obtain ⟨m,hm⟩:=hml;exact ⟨m,hS.1.cell hm⟩)),?_⟩;rintro e w ⟨hq,_⟩;obtain ⟨ap,cp,rfl,hS2⟩:=hq _ rfl;clear hq;rw [hbyl.out,←HBV.out] at hS2;rw [hbyl.out];replace hS:=hS.call1 hS2;clear hS2;refine Ac ?_;go_step|refine X0 ?_|refine X6 ?_|refine X4 ?_|refine AG ?_;go_step|fail)
 all_goals (try exact AR)
 repeat' (first
  | (refine AQ 43 ?_);refine AM (f:=87) Tryz.call87 AA ?_;refine ⟨_,(Ly w ap nl cp),?_⟩;rintro e w ⟨gr,rfl,hS2⟩;replace hS:=hS.call1 hS2;clear hS2;refine Ac ?_;go_step|refine X0 ?_|(refine AQ 44 ?_);(refine An AA (V.build (vs:=[(0,_),(1,_)]) rfl (TD _ _)) ?_;go_step)|(refine AQ 10 ?_);(refine Ad ?_;apply B4 (o:=⟨some 10,_,_,_,_,_⟩) hS 140 rfl (.agg #[.pointer none, .pointer none]) [.pointer none, .pointer none] (fun w=>Tryz.zeroValue140 w) rfl;clear hS;intro g10 w hS;refine AB ?_;go_step)|(with_reducible refine Ak _ (.store 140 _ _) ?_);(refine Ad ?_;apply CZ hS 140 _ _ rfl _ rfl 2 (AO rfl) _ _;(case hp=>exact AL);(case hy=>rfl);(case hn=>rfl);(case hn'=>rfl);(case hv=>rfl);(case hd=>exact rfl);clear hS;intro w hS)|refine AG ?_;go_step|fail)
 all_goals (try exact AR)
 replace hS:St w0 w [MC gc gr L1 L2 ap nl cp l 0,blk g10 [.pointer (some ⟨gc,0,none⟩), .pointer (some ⟨gr,0,none⟩)]]:=cA hS AV
 replace hS:=hS.nilk 26 64 .i64
 go_loopg [11,12,46] n (fun gk pv ov kv w=>∃(k i:Nat) (p:Int) (acc:List Int) (ao:Option Addr) (co:Nat),gk+k=n∧kv= .int .i64 k∧pv= .int .i64 p∧ov= .slice ao k co∧(-2047≤p∧p≤2047)∧CV (EP (Aq L1 L2 l) n 0 0=((EP (Aq L1 L2 l) (n-k) p i).1,acc++(EP (Aq L1 L2 l) (n-k) p i).2.1,(EP (Aq L1 L2 l) (n-k) p i).2.2))∧St w0 w [own 26 64 ao k co (acc.map (Value.int .i64)),MC gc gr L1 L2 ap nl cp l i,blk g10 [.pointer (some ⟨gc,0,none⟩), .pointer (some ⟨gr,0,none⟩)]])
 case atStart=>exact ⟨0,0,0,[],none,0,by omega,rfl,rfl,rfl,by omega,⟨rfl⟩,hS⟩
 case round=>
  clear hS HPL
  obtain ⟨k,i,p,acc,ao,co,hk,rfl,rfl,rfl,hpb,HV,hS⟩:=hrel
  by_cases hlt:k<n
  ·obtain ⟨⟨E,bl,all,i'⟩,hF⟩:∃F,DX (Aq L1 L2 l) p i=F:=⟨_,rfl⟩
   have hbl:Al bl 64:=by have:=Oy (Aq L1 L2 l) p i;rw [hF] at this;exact this
   have hd:EP (Aq L1 L2 l) (n-k) p i=if E≠0 then (E,[],i') else ((EP (Aq L1 L2 l) (n-(k+1)) (AJ bl 0) i').1,bl++(EP (Aq L1 L2 l) (n-(k+1)) (AJ bl 0) i').2.1,(EP (Aq L1 L2 l) (n-(k+1)) (AJ bl 0) i').2.2):=by
    rw [show n-k=(n-(k+1))+1 by omega,EP,hF]
   have HF:CV (DX (Aq L1 L2 l) p i=(E,bl,all,i')):=⟨hF⟩
   have HBB:CV (E=0→ -2047≤AJ bl 0∧AJ bl 0≤2047):=⟨fun h=>by
    have:=VQ (Aq L1 L2 l) p i (by rw [hF];exact h)
    rw [hF] at this
    exact this.2 0 (by omega)⟩
   have HD:CV (EP (Aq L1 L2 l) (n-k) p i=if E≠0 then (E,[],i') else ((EP (Aq L1 L2 l) (n-(k+1)) (AJ bl 0) i').1,bl++(EP (Aq L1 L2 l) (n-(k+1)) (AJ bl 0) i').2.1,(EP (Aq L1 L2 l) (n-(k+1)) (AJ bl 0) i').2.2)):=⟨hd⟩
   clear hF hd
   by_cases hE0:E=0
   case neg=>
    have he:(EP (Aq L1 L2 l) n 0 0).1=E:=by rw [HV.out,HD.out,if_pos hE0]
    have hR1:CV (R=(E,[])):=⟨by rw [←HR.out];unfold QM;rw [if_pos (by rw [he];exact hE0),he]⟩
    clear he HD HV
    repeat' (first
     | refine dv 51 ?_|(refine AQ 52 ?_);refine AM (f:=88) Tryz.call88 AA ?_;refine ⟨_,(Jd _ _ _ gc gr L1 L2 ap nl cp l HG1.out HG2.out HLt.out (by omega) i p hpb hS AL E bl all i' HF.out),?_⟩;clear hS;rintro e w ⟨ad5,c5,m5,rfl,hS⟩;refine Ac ?_;go_step|refine X0 ?_|refine X2 ?_|refine X6 ?_|refine X4 ?_|refine dc ?_|refine KK 13 ?_;clear hS;intro g13 w hS|refine Fd ?_;clear hS;intro w hS|refine AG ?_;go_step|fail)
    all_goals (try exact AR)
    refine AK (xs:=[_,_]) rfl (.cons (AC.tmp rfl) (.cons (AC.tmp rfl) (.nil))) (by simp) rfl ?_
    exact Ep E (by rw [hR1.out]) (by rw [hR1.out]) hS.1
   have hbb:=HBB.out hE0
   have HV2:CV (EP (Aq L1 L2 l) n 0 0=((EP (Aq L1 L2 l) (n-(k+1)) (AJ bl 0) i').1,(acc++bl)++(EP (Aq L1 L2 l) (n-(k+1)) (AJ bl 0) i').2.1,(EP (Aq L1 L2 l) (n-(k+1)) (AJ bl 0) i').2.2)):=⟨by rw [HV.out,HD.out,if_neg (by simpa using hE0),List.append_assoc]⟩
   clear HV HD HBB
   repeat' (first
    | refine dv 51 ?_|(refine AQ 52 ?_);refine AM (f:=88) Tryz.call88 AA ?_;refine ⟨_,(Jd _ _ _ gc gr L1 L2 ap nl cp l HG1.out HG2.out HLt.out (by omega) i p hpb hS AL E bl all i' HF.out),?_⟩;clear hS;rintro e w ⟨ad5,c5,m5,rfl,hS⟩;refine Ac ?_;go_step|refine X0 ?_|refine X2 ?_|refine X6 ?_|refine X4 ?_|refine dc ?_|refine KK 13 ?_;clear hS;intro g13 w hS|refine Fd ?_;clear hS;intro w hS|refine AG ?_;go_step|fail)
   all_goals (try exact AR)
   repeat' (first
    | (refine AQ 61 ?_);refine Ad ?_;refine AU (o:=⟨some 61,_,_,_,_,_⟩) hS 42 1 _ rfl 26 64 512 bt _ _ (AW.agg rfl (by rw [List.length_map];exact hbl) AW.nil) rfl (by decide) (by decide) ?_;clear hS;intro g61 w hS;rw [List.append_nil] at hS;have hsl61:=hS.slBlk (n:=1) (s:=64) AT.head (by rw [List.length_map];exact hbl) (by decide);refine AB ?_;go_step|refine X0 ?_|refine bG 63 ?_|refine X7 ?_|refine Jm ?_|refine cu 62 ?_;clear hS;intro ad62 c62 w hS|refine ag ?_|refine AG ?_;go_step|fail)
   go_roundg (gk-1)
   case measure=>omega
   case rel=>exact ⟨k+1,i',AJ bl 0,acc++bl,_,_,by omega,by go_num,rfl,rfl,hbb,HV2,hS.sub AV⟩
  obtain rfl:k=n:=by omega
  have HV2:CV (EP (Aq L1 L2 l) k 0 0=(0,acc,i)):=⟨by rw [HV.out,Nat.sub_self,EP];simp⟩
  clear HV
  repeat' (first
   | refine X2 ?_|refine AG ?_;go_step|fail)
  obtain ⟨⟨_,hi⟩,hS⟩:=(hS.pull (.tail .head)).open
  dsimp only [List.cons_append,List.nil_append] at hS
  have hcl:=((hS.pull (.tail .head)).open)
  obtain ⟨_,hcl⟩:=hcl
  dsimp only [List.cons_append,List.nil_append] at hcl
  have hcc:=(hcl.blk AT.head).1
  have c0:wr.cell? ⟨gr,0,none⟩=some (.slice ap nl cp):=by rw [hcc.cell];rfl
  have c1:wr.cell? ⟨gr,1,none⟩=some (.int .i64 (i:Nat)):=by rw [hcc.cell];rfl
  clear hcl hcc
  obtain ⟨Lf,hLf⟩:∃x,8*nl-i=x:=⟨_,rfl⟩
  have HLF:=AD hLf
  obtain ⟨N,hN⟩:∃N,BB l i (Lf%8)=N:=⟨_,rfl⟩
  have HN:=AD hN
  have HR2:CV (R=if Lf≤7∧BB l i Lf=2^Lf-1 then (0,acc) else (4,[])):=⟨by rw [←HR.out];unfold QM;rw [HV2.out];dsimp only;rw [if_neg (by simp),HNL.out,hLf]⟩
  have hal:=hS.ownLen (xs:=acc.map (Value.int .i64)) AL
  rw [List.length_map] at hal
  have HL0:=AD (Kl wr gr nl cp i ap c0 c1 (by omega) hi)
  have HAL:=AD hal
  clear c0 c1 HV2 HR hN hal
  by_cases h7:7<Lf
  ·have hR4:CV (R=(4,[])):=⟨by rw [HR2.out,if_neg (by omega)]⟩
   clear HR2
   repeat' (first
    | (refine AQ 68 ?_);refine AM (f:=89) Tryz.call89 AA ?_;refine ⟨_,(HL0.out),?_⟩;rintro e w ⟨rfl,hE⟩;rw [HLF.out];replace hS:=hS.ext hE;clear hE;refine Ac ?_;go_step|refine ax 73 ?_|(refine AQ 74 ?_);refine AM (f:=90) Tryz.call90 AA ?_;refine ⟨_,(Dl w0 _ _ _ gr nl cp i (Lf%8) ap l hS AL HLt.out (by omega) hi (by omega)),?_⟩;rintro e w ⟨_,hq⟩;obtain ⟨rfl,hS2⟩:=hq (by omega);clear hq hS;have hS:=hS2;clear hS2;rw [HN.out];refine Ac ?_;go_step|go_skip|refine X0 ?_|refine Fi ?_|refine Jt 78 ?_ ?_<;>intro hB<;>(try exact AR)<;>go_step|refine bL ?_|refine X6 ?_|refine bQ ?_|refine AG ?_;go_step|fail)
   all_goals (try exact AR)
   all_goals
    refine AK (xs:=[_,_]) rfl (.cons (AC.tmp rfl) (.cons (AC.tmp rfl) (.nil))) (by simp) rfl ?_
    exact Ep 4 (by rw [hR4.out]) (by rw [hR4.out]) hS.1
  have hm:Lf%8=Lf:=by omega
  have hpow:(2:Int)^Lf≤128∧1≤(2:Int)^Lf:=by
   have h1:Lf=0∨Lf=1∨Lf=2∨Lf=3∨Lf=4∨Lf=5∨Lf=6∨Lf=7:=by omega
   rcases h1 with h|h|h|h|h|h|h|h<;>rw [h]<;>decide
  have hNl:BB l i Lf=N:=by rw [←HN.out,hm]
  by_cases hyes:(N:Int)=2^Lf-1
  ·have hR0:CV (R=(0,acc)):=⟨by
    have h1:(((2^Lf:Nat)):Int)=(2:Int)^Lf:=by push_cast;rfl
    rw [HR2.out,if_pos ⟨by omega,by rw [hNl];omega⟩]⟩
   clear HR2 hNl hm
   repeat' (first
    | (refine AQ 68 ?_);refine AM (f:=89) Tryz.call89 AA ?_;refine ⟨_,(HL0.out),?_⟩;rintro e w ⟨rfl,hE⟩;rw [HLF.out];replace hS:=hS.ext hE;clear hE;refine Ac ?_;go_step|refine ax 73 ?_|(refine AQ 74 ?_);refine AM (f:=90) Tryz.call90 AA ?_;refine ⟨_,(Dl w0 _ _ _ gr nl cp i (Lf%8) ap l hS AL HLt.out (by omega) hi (by omega)),?_⟩;rintro e w ⟨_,hq⟩;obtain ⟨rfl,hS2⟩:=hq (by omega);clear hq hS;have hS:=hS2;clear hS2;rw [HN.out];refine Ac ?_;go_step|refine X0 ?_|refine H7 ?_|refine Jt 78 ?_ ?_<;>intro hB<;>(try exact AR)<;>go_step|refine bL ?_|refine X6 ?_|(with_reducible refine Ak _ (.binOp .shl _ _ _ _) ?_);(refine An AA (V.shl1 rfl rfl A9 (by omega)) ?_;go_step)|refine YE ?_|refine Ju ?_|refine bQ ?_|refine AG ?_;go_step|fail)
   all_goals (try exact AR)
   repeat' (first
    | refine AG ?_;go_step|fail)
   refine AK (xs:=[_,_]) rfl (.cons (AC.tmp rfl) (.cons (AC.tmp rfl) (.nil))) (by simp) rfl ?_
   exact ⟨ao,co,k,by rw [hR0.out];exact HAL.out,by rw [hR0.out];rfl,by rw [hR0.out];exact hS.sub AV⟩
  have hR4:CV (R=(4,[])):=⟨by
   rw [HR2.out,if_neg ?_]
   rintro ⟨_,h⟩
   rw [hNl] at h
   have h1:(((2^Lf:Nat)):Int)=(2:Int)^Lf:=by push_cast;rfl
   have h2:=Nat.two_pow_pos Lf
   omega⟩
  clear HR2 hNl hm
  repeat' (first
   | (refine AQ 68 ?_);refine AM (f:=89) Tryz.call89 AA ?_;refine ⟨_,(HL0.out),?_⟩;rintro e w ⟨rfl,hE⟩;rw [HLF.out];replace hS:=hS.ext hE;clear hE;refine Ac ?_;go_step|refine ax 73 ?_|(refine AQ 74 ?_);refine AM (f:=90) Tryz.call90 AA ?_;refine ⟨_,(Dl w0 _ _ _ gr nl cp i (Lf%8) ap l hS AL HLt.out (by omega) hi (by omega)),?_⟩;rintro e w ⟨_,hq⟩;obtain ⟨rfl,hS2⟩:=hq (by omega);clear hq hS;have hS:=hS2;clear hS2;rw [HN.out];refine Ac ?_;go_step|refine X0 ?_|refine H7 ?_|refine Jt 78 ?_ ?_<;>intro hB<;>(try exact AR)<;>go_step|refine bL ?_|refine X6 ?_|(with_reducible refine Ak _ (.binOp .shl _ _ _ _) ?_);(refine An AA (V.shl1 rfl rfl A9 (by omega)) ?_;go_step)|refine YE ?_|refine Ju ?_|refine bQ ?_|refine AG ?_;go_step|fail)
  all_goals (try exact AR)
  all_goals
   refine AK (xs:=[_,_]) rfl (.cons (AC.tmp rfl) (.cons (AC.tmp rfl) (.nil))) (by simp) rfl ?_
   exact Ep 4 (by rw [hR4.out]) (by rw [hR4.out]) hS.1
theorem MB(w0:World)(C1 C2 S1 S2:List Int)(a1 a2:Option Addr)(n1 n2 k1 k2:Nat)(hC1:Al C1 16)(hC2:Al C2 16)(hs1:Sl w0 1 (.slice a1 n1 k1) n1 (S1.map (Value.int .i64)))(hs2:Sl w0 1 (.slice a2 n2 k2) n2 (S2.map (Value.int .i64)))(hn1:n1≤9223372036854775807)(hn2:n2≤9223372036854775807)(ad:Option Addr)(nb c:Nat)(z:Int)(E:Int)(hE:D4 C1 S1 C2 S2=E)(h0:E≠0):
 Calls Tryz.prog 51 #[.agg (AF [.ints C1, .val (.slice a1 n1 k1), .ints C2, .val (.slice a2 n2 k2)]).toArray, .slice ad nb c, .int .i64 z] w0 (Fu w0 E []):=by
 have hS:=St.start w0
 have HE:=AD hE
 clear hE
 go_enter Tryz.func51,Tryz.ntmps51
 repeat' (first
  | (refine AQ 21 ?_);refine AM (f:=85) Tryz.call85 AA ?_;refine ⟨_,(PA _ C1 C2 S1 S2 a1 a2 n1 n2 k1 k2 hC1 hC2 (hs1.ext hS.1) (hs2.ext hS.1) hn1 hn2 E HE.out h0),?_⟩;rintro e w ⟨rfl,hE2⟩;replace hS:=hS.ext hE2;clear hE2;refine Ac ?_;go_step|refine X0 ?_|refine X6 ?_|refine X4 ?_|refine OI 3 ?_;clear hS;intro g3 w hS|refine P0 ?_|refine AG ?_;go_step|fail)
 all_goals (try exact AR)
 refine AK (xs:=[_,_]) rfl (.cons (AC.tmp rfl) (.cons (AC.tmp rfl) (.nil))) (by simp) rfl ?_
 exact Ep E rfl rfl hS.1
theorem L9(w0:World)(C1 C2 S1 S2:List Int)(a1 a2:Option Addr)(n1 n2 k1 k2:Nat)(hC1:Al C1 16)(hC2:Al C2 16)(hs1:Sl w0 1 (.slice a1 n1 k1) n1 (S1.map (Value.int .i64)))(hs2:Sl w0 1 (.slice a2 n2 k2) n2 (S2.map (Value.int .i64)))(hn1:n1≤9223372036854775807)(hn2:n2≤9223372036854775807)(ad:Option Addr)(nb c:Nat)(z:Int)(hT1:Ay C1 S1=0)(hT2:Ay C2 S2=0)(hz:z<0∨400<z):
 Calls Tryz.prog 51 #[.agg (AF [.ints C1, .val (.slice a1 n1 k1), .ints C2, .val (.slice a2 n2 k2)]).toArray, .slice ad nb c, .int .i64 z] w0 (Fu w0 1 []):=by
 have hS:=St.start w0
 have HT1:=AD hT1
 have HT2:=AD hT2
 clear hT1 hT2
 rcases hz with hz|hz
 all_goals
  go_enter Tryz.func51,Tryz.ntmps51
  repeat' (first
   | (refine AQ 21 ?_);refine AM (f:=85) Tryz.call85 AA ?_;refine ⟨_,(II _ C1 C2 S1 S2 a1 a2 n1 n2 k1 k2 hC1 hC2 (hs1.ext hS.1) (hs2.ext hS.1) hn1 hn2 HT1.out HT2.out),?_⟩;rintro e w ⟨gc,rfl,hS2⟩;replace hS:=hS.call1 hS2;clear hS2;refine Ac ?_;go_step|refine X0 ?_|refine X6 ?_|refine X4 ?_|refine OI 3 ?_;clear hS;intro g3 w hS|refine P0 ?_|refine AG ?_;go_step|fail)
  all_goals (try exact AR)
  repeat' (first
   | go_skip|((first|(with_reducible refine Io ?_)|(with_reducible refine QC ?_));(first|go_big_want|go_step);go_step)|((with_reducible refine Ak _ (.pick _ _ _) ?_);first|(refine A6 rfl AA ?_;go_step)|(refine A3 rfl AA ?_;go_step))|((refine AQ 28 ?_);(refine CG _ (V.lss rfl rfl) AA (fun hB=>?_) (fun hB=>?_)<;>(try exact AR)<;>go_step))|((with_reducible refine Ak _ (.binOp .gtr _ _ _ _) ?_);(refine An AA (V.gtr rfl rfl) ?_;go_step))|(refine AG ?_;go_step)|fail)
  all_goals (try exact AR)
  refine AK (xs:=[_,_]) rfl (.cons (AC.tmp rfl) (.cons (AC.tmp rfl) (.nil))) (by simp) rfl ?_
  exact Ep 1 rfl rfl hS.1
theorem Jo(w0:World)(C1 C2 S1 S2:List Int)(a1 a2:Option Addr)(n1 n2 k1 k2:Nat)(hC1:Al C1 16)(hC2:Al C2 16)(hs1:Sl w0 1 (.slice a1 n1 k1) n1 (S1.map (Value.int .i64)))(hs2:Sl w0 1 (.slice a2 n2 k2) n2 (S2.map (Value.int .i64)))(hn1:n1≤9223372036854775807)(hn2:n2≤9223372036854775807)(ad:Option Addr)(nb c:Nat)(b:List Int)(z:Int)
 (hb:nb≤1000000000) (hv:Sl w0 1 (.slice ad nb c) nb (b.map (Value.int .u8))) (hnil:ad=none→c=0) (hx:∀x∈b,0≤x∧x<256) (hml:∃m,w0.cell? ⟨0,0,none⟩=some (.int .i64 m)) (hT1:Ay C1 S1=0) (hT2:Ay C2 S2=0) (hz:0≤z∧z≤400) (hno:∀cc,b≠Dg cc):
 Calls Tryz.prog 51 #[.agg (AF [.ints C1, .val (.slice a1 n1 k1), .ints C2, .val (.slice a2 n2 k2)]).toArray, .slice ad nb c, .int .i64 z] w0 (Fu w0 4 []):=by
 have hS:=St.start w0
 have HT1:=AD hT1
 have HT2:=AD hT2
 have HX:=AD hx
 have HNO:=AD hno
 clear hT1 hT2 hx hno
 go_enter Tryz.func51,Tryz.ntmps51
 repeat' (first
  | (refine AQ 21 ?_);refine AM (f:=85) Tryz.call85 AA ?_;refine ⟨_,(II _ C1 C2 S1 S2 a1 a2 n1 n2 k1 k2 hC1 hC2 (hs1.ext hS.1) (hs2.ext hS.1) hn1 hn2 HT1.out HT2.out),?_⟩;rintro e w ⟨gc,rfl,hS2⟩;replace hS:=hS.call1 hS2;clear hS2;refine Ac ?_;go_step|refine X0 ?_|refine X6 ?_|refine X4 ?_|refine OI 3 ?_;clear hS;intro g3 w hS|refine P0 ?_|refine AG ?_;go_step|fail)
 all_goals (try exact AR)
 repeat' (first
  | refine X1 ?_|refine H7 ?_|refine Ei 28 ?_ ?_<;>intro hB<;>(try exact AR)<;>go_step|refine H3 ?_|refine AG ?_;go_step|fail)
 all_goals (try exact AR)
 repeat' (first
  | (refine AQ 35 ?_);refine AM (f:=86) Tryz.call86 AA ?_;refine ⟨_,(I6 w ad nb c b (hv.ext hS.1) hnil HX.out hb (by obtain ⟨m,hm⟩:=hml;exact ⟨m,hS.1.cell hm⟩)),?_⟩;rintro e w ⟨_,hq⟩;obtain ⟨rfl,hE2⟩:=hq HNO.out;clear hq;replace hS:=hS.ext hE2;clear hE2;refine Ac ?_;go_step|refine X0 ?_|refine X6 ?_|refine X4 ?_|refine AG ?_;go_step|fail)
 all_goals (try exact AR)
 refine AK (xs:=[_,_]) rfl (.cons (AC.tmp rfl) (.cons (AC.tmp rfl) (.nil))) (by simp) rfl ?_
 exact Ep 4 rfl rfl hS.1
open Classical in
noncomputable def YU(b:List Int):Option (List Nat):=if h:∃l:List Nat,(∀x∈l,x<256)∧b=Dg (Fo l) then some h.choose else none
theorem YQ{a b:List Nat}(h:Fo a=Fo b):a=b:=by
 unfold Fo at h
 exact (List.map_inj_right (fun x y e=>by omega)).1 h
theorem YV{l:List Nat}(hl:∀x∈l,x<256):YU (Dg (Fo l))=some l:=by
 have h:∃m:List Nat,(∀x∈m,x<256)∧Dg (Fo l)=Dg (Fo m):=⟨l,hl,rfl⟩
 unfold YU
 rw [dif_pos h]
 have:=h.choose_spec.2
 exact congrArg some (YQ (J7 _ _ this)).symm
theorem Oa{b:List Int}{l:List Nat}(h:YU b=some l):(∀x∈l,x<256)∧b=Dg (Fo l):=by
 unfold YU at h
 split at h
 ·rename_i h1
  have:=h1.choose_spec
  rw [Option.some.inj h] at this
  exact this
 cases h
theorem Wh{cc:List Int}:∀x∈cc,x∈Dg cc:=by
 intro x hx
 unfold Dg Hl
 rw [List.mem_flatMap]
 refine ⟨x,hx,?_⟩
 split
 ·rename_i h;subst h;simp
 simp
theorem VF{b:List Int}(hx:∀x∈b,0≤x∧x<256)(h:YU b=none):∀cc,b≠Dg cc:=by
 rintro cc rfl
 have h1:∃l:List Nat,(∀x∈l,x<256)∧Dg cc=Dg (Fo l):=by
  refine ⟨cc.map Int.toNat,fun x hx2=>?_,?_⟩
  ·obtain ⟨y,hy,rfl⟩:=List.mem_map.1 hx2
   have:=hx y (Wh y hy)
   omega
  congr 1
  unfold Fo
  rw [List.map_map]
  symm
  rw [List.map_congr_left (g:=id) (fun x hx2=>by have:=hx x (Wh x hx2);simp;omega),List.map_id]
 unfold YU at h
 rw [dif_pos h1] at h
 cases h
noncomputable def E5(C1 S1 C2 S2:List Int)(b:List Int)(z:Int):Int×List Int:=
 if D4 C1 S1 C2 S2=0 then if 0≤z∧z≤400 then match YU b with
  | none=>(4,[])
  | some l=>QM (Bh C1 S1) (Bh C2 S2) l z.toNat
 else (1,[]) else (D4 C1 S1 C2 S2,[])
theorem GH{C1 S1 C2 S2:List Int}(h:D4 C1 S1 C2 S2=0):Ay C1 S1=0∧Ay C2 S2=0:=by
 unfold D4 at h
 by_cases h1:Ay C1 S1=0
 ·rw [if_pos h1] at h;exact ⟨h1,h⟩
 rw [if_neg h1] at h;exact absurd h h1
theorem Gy(w0:World)(C1 C2 S1 S2:List Int)(a1 a2:Option Addr)(n1 n2 k1 k2:Nat)(hC1:Al C1 16)(hC2:Al C2 16)(hs1:Sl w0 1 (.slice a1 n1 k1) n1 (S1.map (Value.int .i64)))(hs2:Sl w0 1 (.slice a2 n2 k2) n2 (S2.map (Value.int .i64)))(hn1:n1≤9223372036854775807)(hn2:n2≤9223372036854775807)(ad:Option Addr)(nb c:Nat)(b:List Int)(z:Int)
 (hb:nb≤1000000000) (hv:Sl w0 1 (.slice ad nb c) nb (b.map (Value.int .u8))) (hnil:ad=none→c=0) (hx:∀x∈b,0≤x∧x<256) (hml:∃m,w0.cell? ⟨0,0,none⟩=some (.int .i64 m)) (R:Int×List Int) (hR:E5 C1 S1 C2 S2 b z=R):
 Calls Tryz.prog 51 #[.agg (AF [.ints C1, .val (.slice a1 n1 k1), .ints C2, .val (.slice a2 n2 k2)]).toArray, .slice ad nb c, .int .i64 z] w0 (Fu w0 R.1 R.2):=by
 subst hR
 unfold E5
 by_cases hT:D4 C1 S1 C2 S2=0
 ·rw [if_pos hT]
  obtain ⟨h1,h2⟩:=GH hT
  by_cases hz:0≤z∧z≤400
  ·rw [if_pos hz]
   cases hd:YU b with
   | none=>exact Jo w0 C1 C2 S1 S2 a1 a2 n1 n2 k1 k2 hC1 hC2 hs1 hs2 hn1 hn2 ad nb c b z hb hv hnil hx hml h1 h2 hz (VF hx hd)
   | some l=>
     obtain ⟨hl,rfl⟩:=Oa hd
     obtain ⟨n,rfl⟩:∃n:Nat,z=(n:Int):=⟨z.toNat,by omega⟩
     exact MA w0 C1 C2 S1 S2 a1 a2 n1 n2 k1 k2 hC1 hC2 hs1 hs2 hn1 hn2 ad nb c l n hb hv hnil hl hml (by omega) h1 h2 _ rfl
  rw [if_neg hz]
  exact L9 w0 C1 C2 S1 S2 a1 a2 n1 n2 k1 k2 hC1 hC2 hs1 hs2 hn1 hn2 ad nb c z h1 h2 (by omega)
 rw [if_neg hT]
 exact MB w0 C1 C2 S1 S2 a1 a2 n1 n2 k1 k2 hC1 hC2 hs1 hs2 hn1 hn2 ad nb c z _ rfl hT
theorem K7{C1 S1 C2 S2 b:List Int}{z:Int}(h:(E5 C1 S1 C2 S2 b z).1=0):
 ∃n:Nat,z=(n:Int)∧n≤400∧(E5 C1 S1 C2 S2 b z).2.length=n*64∧Cg C1 S1 C2 S2 (E5 C1 S1 C2 S2 b z).2 n=0∧C6 C1 S1 C2 S2 (E5 C1 S1 C2 S2 b z).2 n=b:=by
 unfold E5 at h⊢
 by_cases ht:D4 C1 S1 C2 S2=0
 case neg=>rw [if_neg ht] at h;exact absurd h ht
 rw [if_pos ht] at h⊢
 obtain ⟨t1,t2⟩:=GH ht
 by_cases hz:0≤z∧z≤400
 case neg=>rw [if_neg hz] at h;cases h
 rw [if_pos hz] at h⊢
 cases hd:YU b with
 | none=>rw [hd] at h;cases h
 | some l=>
   rw [hd] at h
   dsimp only at h⊢
   obtain ⟨hl,hb⟩:=Oa hd
   obtain ⟨k1,k2,k3,k4⟩:=TU (Bb t1) (Bb t2) hl h
   have hz2:z.toNat≤400:=by omega
   have hblk:BX (QM (Bh C1 S1) (Bh C2 S2) l z.toNat).2 z.toNat=0:=by
    unfold BX
    rw [if_neg (by omega),if_pos k2]
   have he:=GU (Bh C1 S1) (Bh C2 S2) _ [] k3
   have h0:Cg C1 S1 C2 S2 (QM (Bh C1 S1) (Bh C2 S2) l z.toNat).2 z.toNat=0:=by
    unfold Cg
    rw [if_pos ht,if_pos hblk,he]
   refine ⟨z.toNat,by omega,hz2,k1,h0,?_⟩
   unfold C6 Bm
   rw [if_pos h0,he]
   dsimp only
   rw [List.nil_append,k4,hb]
def IP(n every:Int):Prop:=0≤every∧every≤100∧0≤n∧n≤400
instance(n every:Int):Decidable (IP n every):=by unfold IP;infer_instance
def cL(b:List Int):Int:=match Df b [] [] [] with
 | none=>4
 | some _=>0
def Lg(C1 S1 C2 S2 b:List Int)(n every:Int):Int:=if IP n every then if D4 C1 S1 C2 S2=0 then cL b else D4 C1 S1 C2 S2 else 1
def XV(w0:World)(b:List Int)(e:Ending)(w:World):Prop:=
 ∀ps ms,Df b [] [] []=some (ps,ms)→∃(pcs:List Pc) (ao am:Option Addr) (co cm lo lm:Nat),lo=ps.length∧lm=ms.length∧pcs.map (·.xs)=ps∧e= .returned (.tuple #[.slice ao lo co, .slice am lm cm, .int .i64 0])∧
  St w0 w [own 35 1 ao lo co (pcs.map Pc.val),own 3 1 am lm cm (ms.map (Value.int .i64)),star (pcs.map Pc.res)]
def RO(w0:World)(E:Int)(b:List Int)(e:Ending)(w:World):Prop:=
 (E≠0→e= .returned (.tuple #[.slice none 0 0, .slice none 0 0, .int .i64 E])∧Ai w0 w)∧(E=0→XV w0 b e w)
theorem SK{w0 w:World}{E:Int}{b:List Int}(E':Int)(h:E=E')(h0:E'≠0)(hE:Ai w0 w):RO w0 E b (.returned (.tuple #[.slice none 0 0, .slice none 0 0, .int .i64 E'])) w:=by
 subst h
 exact ⟨fun _=>⟨rfl,hE⟩,fun h=>absurd h h0⟩
theorem FV(w0:World)(C1 C2 S1 S2:List Int)(a1 a2:Option Addr)(n1 n2 k1 k2:Nat)(hC1:Al C1 16)(hC2:Al C2 16)(hs1:Sl w0 1 (.slice a1 n1 k1) n1 (S1.map (Value.int .i64)))(hs2:Sl w0 1 (.slice a2 n2 k2) n2 (S2.map (Value.int .i64)))(hn1:n1≤9223372036854775807)(hn2:n2≤9223372036854775807)(ad:Option Addr)(nb c:Nat)(b:List Int)(n every:Int)
 (hb:nb≤1000000000) (hv:Sl w0 1 (.slice ad nb c) nb (b.map (Value.int .u8))) (hx:∀x∈b,0≤x∧x<256):
 Calls Tryz.prog 84 #[.agg (AF [.ints C1, .val (.slice a1 n1 k1), .ints C2, .val (.slice a2 n2 k2)]).toArray, .slice ad nb c, .int .i64 n, .int .i64 every] w0 (RO w0 (Lg C1 S1 C2 S2 b n every) b):=by
 have hS:=St.start w0
 have hL1:=AD (Dr C1 (.slice a1 n1 k1) hC1)
 have hL2:=AD (Dr C2 (.slice a2 n2 k2) hC2)
 have HX:=AD hx
 obtain ⟨E1,hE1⟩:∃x,Ay C1 S1=x:=⟨_,rfl⟩
 obtain ⟨E2,hE2⟩:∃x,Ay C2 S2=x:=⟨_,rfl⟩
 have HE1:=AD hE1
 have HE2:=AD hE2
 have HT:=AD (show D4 C1 S1 C2 S2=if E1=0 then E2 else E1 by unfold D4;rw [hE1,hE2])
 clear hE1 hE2 hx
 by_cases hok:IP n every
 case neg=>
  have HP:=AD (show Lg C1 S1 C2 S2 b n every=1 by unfold Lg;rw [if_neg hok])
  have hbad:(every<0)∨(100<every)∨(n<0)∨(400<n):=by unfold IP at hok;omega
  clear hok
  rcases hbad with h|h|h|h
  all_goals
   go_enter Tryz.func84,Tryz.ntmps84
   repeat' (first
    | go_skip|((first|(with_reducible refine Io ?_)|(with_reducible refine QC ?_));(first|go_big_want|go_step);go_step)|((with_reducible refine Ak _ (.pick _ _ _) ?_);first|(refine A6 rfl AA ?_;go_step)|(refine A3 rfl AA ?_;go_step))|((refine AQ 15 ?_);(refine CG _ (V.lss rfl rfl) AA (fun hB=>?_) (fun hB=>?_)<;>(try exact AR)<;>go_step))|((refine AQ 18 ?_);(refine CG _ (V.gtr rfl rfl) AA (fun hB=>?_) (fun hB=>?_)<;>(try exact AR)<;>go_step))|((refine AQ 22 ?_);(refine CG _ (V.lss rfl rfl) AA (fun hB=>?_) (fun hB=>?_)<;>(try exact AR)<;>go_step))|((with_reducible refine Ak _ (.binOp .gtr _ _ _ _) ?_);(refine An AA (V.gtr rfl rfl) ?_;go_step))|((refine AQ 4 ?_);(refine Ad ?_;apply Ig (o:=⟨some 4,_,_,_,_,_⟩) hS 34 _ rfl _ rfl;clear hS;intro g4 w hS;refine AB ?_;go_step))|(refine AG ?_;go_step)|fail)
   all_goals (try exact AR)
   all_goals
    refine AK (xs:=[_,_,_]) rfl (.cons (AC.tmp rfl) (.cons (AC.tmp rfl) (.cons (AC.tmp rfl) (.nil)))) (by simp) rfl ?_
    exact SK 1 HP.out (by decide) hS.1
 have HP:=AD (show Lg C1 S1 C2 S2 b n every=if D4 C1 S1 C2 S2=0 then cL b else D4 C1 S1 C2 S2 by unfold Lg;rw [if_pos hok])
 have hok2:=hok
 unfold IP at hok2
 obtain ⟨o1,o2,o3,o4⟩:=hok2
 clear hok
 go_enter Tryz.func84,Tryz.ntmps84
 repeat' (first
  | refine X0 ?_|refine H7 ?_|refine Ei 15 ?_ ?_<;>intro hB<;>(try exact AR)<;>go_step|refine Jt 18 ?_ ?_<;>intro hB<;>(try exact AR)<;>go_step|refine Ei 22 ?_ ?_<;>intro hB<;>(try exact AR)<;>go_step|refine H3 ?_|refine OI 4 ?_;clear hS;intro g4 w hS|refine AG ?_;go_step|fail)
 all_goals (try exact AR)
 repeat' (first
  | (refine AQ 32 ?_);refine Ad ?_;refine AU (o:=⟨some 32,_,_,_,_,_⟩) hS 115 2 _ rfl 32 17 152 Od _ _ (AW.agg rfl hL1.out (AW.agg rfl hL2.out AW.nil)) rfl (by decide) (by decide) ?_;clear hS;intro g32 w hS;replace hS:=Ia hS;refine AB ?_;go_step|refine X1 ?_|refine cy ?_|refine cz ?_|refine Ui ?_|refine Lk ?_|refine AG ?_;go_step|fail)
 clear hL1 hL2
 go_loopg [34] 2 (fun gk kv w=>∃k:Nat,gk+k=2∧kv= .int .i64 k∧(1≤k→E1=0)∧(2≤k→E2=0)∧St w0 w [prt g32 [.ints C1, .val (.slice a1 n1 k1), .ints C2, .val (.slice a2 n2 k2)]])
 case atStart=>exact ⟨0,rfl,rfl,fun h=>absurd h (by omega),fun h=>absurd h (by omega),hS.sub AV⟩
 case round=>
  clear hS
  obtain ⟨k,hk,rfl,HA,HB,hS⟩:=hrel
  by_cases hlt:k<2
  ·obtain rfl|rfl:k=0∨k=1:=by omega
   ·clear HA HB
    repeat' (first
     | (refine As 73 ?_);refine At AA Tryz.call73 (CY _ C1 S1 a1 n1 k1 hC1 (hs1.ext hS.1) hn1) ?_;rintro e w ⟨rfl,hE2⟩;rw [HE1.out];replace hS:=hS.ext hE2;clear hE2;refine Ac ?_;go_step|refine X0 ?_|refine X2 ?_|refine XI 36 ?_|refine X4 ?_|refine X7 ?_|refine Lk ?_|refine RS 12 ?_;clear hS;intro g12 w hS|refine S9 ?_;clear hS;intro w hS|refine AG ?_;go_step|fail)
    ·refine AK (xs:=[_,_,_]) rfl (.cons (AC.tmp rfl) (.cons (AC.tmp rfl) (.cons (AC.tmp rfl) (.nil)))) (by simp) rfl ?_
     exact SK E1 (by rw [HP.out,HT.out,if_neg (show ¬E1=0 by omega),if_neg (by omega)]) (by omega) hS.1
    go_roundg (gk-1)
    case measure=>omega
    case rel=>exact ⟨1,by omega,rfl,fun _=>by omega,fun h=>absurd h (by omega),hS.sub AV⟩
   have h1:=HA (by omega)
   subst h1
   clear HA HB
   repeat' (first
    | (refine As 73 ?_);refine At AA Tryz.call73 (CY _ C2 S2 a2 n2 k2 hC2 (hs2.ext hS.1) hn2) ?_;rintro e w ⟨rfl,hE2⟩;rw [HE2.out];replace hS:=hS.ext hE2;clear hE2;refine Ac ?_;go_step|refine X0 ?_|refine X2 ?_|refine XI 36 ?_|refine X4 ?_|refine X7 ?_|refine Lk ?_|refine RS 12 ?_;clear hS;intro g12 w hS|refine S9 ?_;clear hS;intro w hS|refine AG ?_;go_step|fail)
   ·refine AK (xs:=[_,_,_]) rfl (.cons (AC.tmp rfl) (.cons (AC.tmp rfl) (.cons (AC.tmp rfl) (.nil)))) (by simp) rfl ?_
    exact SK E2 (by rw [HP.out,HT.out,if_pos rfl,if_neg (by omega)]) (by omega) hS.1
   go_roundg (gk-1)
   case measure=>omega
   case rel=>exact ⟨2,by omega,rfl,fun _=>rfl,fun _=>by omega,hS.sub AV⟩
  obtain rfl:k=2:=by omega
  have h1:=HA (by omega)
  have h2:=HB (by omega)
  subst h1;subst h2
  have HP2:=AD (show Lg C1 S1 C2 S2 b n every=cL b by rw [HP.out,HT.out,if_pos rfl,if_pos rfl])
  cases hsp:Df b [] [] [] with
  | none=>
    have HSP:=AD hsp
    have HP3:=AD (show Lg C1 S1 C2 S2 b n every=4 by rw [HP2.out];unfold cL;rw [hsp])
    clear hsp
    repeat' (first
     | refine X1 ?_|refine X2 ?_|refine AG ?_;go_step|fail)
    repeat' (first
     | (refine AQ 45 ?_);refine AM (f:=60) Tryz.call60 AA ?_;refine ⟨_,(FE _ ad nb c b (hv.ext hS.1) HX.out hb),?_⟩;rintro e w ⟨hq,_⟩;obtain ⟨rfl,hE2⟩:=hq HSP.out;clear hq;replace hS:=hS.ext hE2;clear hE2;refine Ac ?_;go_step|refine X8 ?_|refine X6 ?_|refine AG ?_;go_step|fail)
    refine AK (xs:=[_,_,_]) rfl (.cons (AC.tmp rfl) (.cons (AC.tmp rfl) (.cons (AC.tmp rfl) (.nil)))) (by simp) rfl ?_
    exact SK 4 HP3.out (by decide) hS.1
  | some y=>
    obtain ⟨ps,ms⟩:=y
    have HSP:=AD hsp
    have HP3:=AD (show Lg C1 S1 C2 S2 b n every=0 by rw [HP2.out];unfold cL;rw [hsp])
    clear hsp
    repeat' (first
     | refine X1 ?_|refine X2 ?_|refine AG ?_;go_step|fail)
    repeat' (first
     | (refine AQ 45 ?_);refine AM (f:=60) Tryz.call60 AA ?_;refine ⟨_,(FE _ ad nb c b (hv.ext hS.1) HX.out hb),?_⟩;rintro e w ⟨_,hq⟩;obtain ⟨pcs,ao,am,co,cm,lo,lm,hlo,hlm,hpc,rfl,hS2⟩:=hq _ _ HSP.out;clear hq;have HQ:=AD (And.intro hlo (And.intro hlm hpc));clear hlo hlm hpc;replace hS:=hS.call hS2;dsimp only [List.cons_append,List.nil_append] at hS;clear hS2;refine Ac ?_;go_step|refine X8 ?_|refine X6 ?_|refine AG ?_;go_step|fail)
    refine AK (xs:=[_,_,_]) rfl (.cons (AC.tmp rfl) (.cons (AC.tmp rfl) (.cons (AC.tmp rfl) (.nil)))) (by simp) rfl ?_
    refine ⟨fun h=>absurd HP3.out h,fun _ ps' ms' hsp'=>?_⟩
    have he:=HSP.out.symm.trans hsp'
    obtain ⟨rfl,rfl⟩:ps=ps'∧ms=ms':=by simpa using he
    exact ⟨pcs,ao,am,co,cm,lo,lm,HQ.out.1,HQ.out.2.1,HQ.out.2.2,rfl,hS.sub AV⟩
theorem OR(m0:Int)(m1:Int)(w:World):(Instr.build 94 #[(0, .int .i64 m0),(1, .int .i64 m1)]).run Tryz.prog w= .ok (.agg #[.int .i64 m0, .int .i64 m1]) w:=by kernel_rfl
def Cm(n every:Nat):Nat→Nat→List (Nat×Nat)
 | 0,_=>[]
 | f+1,at_=>if at_<n then (at_,min (at_+every) n)::Cm n every f (at_+every) else []
def A5(n every:Nat):List (Nat×Nat):=if every=0∨n=0 then [(0,n)] else Cm n every n 0
def OC(L:List (Nat×Nat)):List Int:=L.flatMap fun x=>[(x.1:Int),(x.2:Int)]
theorem WU(L:List (Nat×Nat))(x:Nat×Nat):OC (L++[x])=OC L++[(x.1:Int),(x.2:Int)]:=by simp [OC]
theorem IV:∀(L:List (Nat×Nat))(k:Nat)(x:Nat×Nat),L[k]? =some x→((OC L).drop (k*2)).take 2=[(x.1:Int),(x.2:Int)]
 | [],k,x,h=>by simp at h
 | y::L,0,x,h=>by obtain rfl:y=x:=(by simpa using h);simp [OC]
 | y::L,k+1,x,h=>by
   have:=IV L k x (by simpa using h)
   rw [show (k+1)*2=k*2+2 by omega]
   simpa [OC] using this
theorem EI(w0:World)(n every:Nat)(hn:n≤1048576)(he:every≤1048576):
 Calls Tryz.prog 50 #[.int .i64 n, .int .i64 every] w0 fun e w=>∃ad c m,(A5 n every).length=m∧e= .returned (.slice ad m c)∧St w0 w [own 94 2 ad m c ((OC (A5 n every)).map (Value.int .i64))]:=by
 have hS:=St.start w0
 by_cases h0:every=0∨n=0
 ·have HP:=AD (show A5 n every=[(0,n)] by unfold A5;rw [if_pos h0])
  rcases h0 with h0|h0
  all_goals
   subst h0
   go_enter Tryz.func50,Tryz.ntmps50
   repeat' (first
    | (refine AQ 15 ?_);(refine Ad ?_;apply DT (o:=⟨some 15,_,_,_,_,_⟩) hS 91 1 _ rfl 94 2 16 bu _ _;(case hvs=>(repeat (first|exact AW.nil|(apply AW.agg;(rfl);(rfl))|(apply AW.one;exact CI;(rfl);(rfl)))));(case hn=>rfl);(case hn0=>decide);(case hns=>decide);clear hS;intro g15 w hS;simp only [List.cons_append,List.nil_append] at hS;refine AB ?_;go_step)|go_skip|refine X0 ?_|refine Iu ?_|refine H6 8 ?_ ?_<;>intro hB<;>(try exact AR)<;>go_step|refine XB ?_|(refine AQ 14 ?_);(refine An AA (V.build (vs:=[(0,_),(1,_)]) rfl (OR _ _)) ?_;go_step)|refine AG ?_;go_step|fail)
   all_goals (try exact AR)
   all_goals
    go_ret
    refine ⟨_,_,1,by rw [HP.out];rfl,rfl,?_⟩
    rw [HP.out]
    exact hS.sub (xs:=[own 94 2 (some ⟨g15,0,none⟩) 1 1 [.int .i64 0, .int .i64 (_:Nat)]]) AV
 have HP:=AD (show A5 n every=Cm n every n 0 by unfold A5;rw [if_neg h0])
 have he1:0<every:=by omega
 have hn1:0<n:=by omega
 clear h0
 go_enter Tryz.func50,Tryz.ntmps50
 repeat' (first
  | refine X0 ?_|refine H7 ?_|refine H6 8 ?_ ?_<;>intro hB<;>(try exact AR)<;>go_step|refine XB ?_|refine AG ?_;go_step|fail)
 all_goals (try exact AR)
 repeat' (first
  | refine AG ?_;go_step|fail)
 replace hS:=hS.nilk 94 2 .i64
 go_loopg [5,6] n (fun gk ov iv_ w=>∃(at_ m:Nat) (o:List (Nat×Nat)) (ad:Option Addr) (c:Nat),iv_= .int .i64 at_∧ov= .slice ad m c∧n≤gk+at_∧at_≤n+every∧m≤at_∧Hid (o.length=m)∧Hid (A5 n every=o++Cm n every gk at_)∧St w0 w [own 94 2 ad m c ((OC o).map (Value.int .i64))])
 case atStart=>exact ⟨0,0,[],none,0,rfl,rfl,by omega,by omega,by omega,AD rfl,AD (by rw [HP.out];rfl),hS⟩
 case round=>
  clear hS
  obtain ⟨at_,m,o,ad,c,rfl,rfl,hg,ha,hm,HO,HA,hS⟩:=hrel
  by_cases hr0:at_<n
  ·obtain ⟨f,rfl⟩:∃f,gk=f+1:=⟨gk-1,by omega⟩
   have ha:=HA.out
   rw [Cm,if_pos hr0] at ha
   obtain ⟨q,hq⟩:∃q,min (at_+every) n=q:=⟨_,rfl⟩
   rw [hq] at ha
   have HA2:=AD ha
   have HSF:=AD (WU o (at_,q))
   clear ha
   repeat' (first
    | refine X1 ?_|refine X2 ?_|refine AG ?_;go_step|fail)
   all_goals (try exact AR)
   repeat' (first
    | (refine AQ 28 ?_);(refine Ag (.int _ (((q:Nat):Int))) (V.as (V.min rfl rfl) (by omega)) (by kernel_rfl) ?_;go_step)|refine X0 ?_|refine X7 ?_|(refine AQ 29 ?_);(refine An AA (V.build (vs:=[(0,_),(1,_)]) rfl (OR _ _)) ?_;go_step)|(refine AQ 30 ?_);(refine Ad ?_;apply AU (o:=⟨some 30,_,_,_,_,_⟩) hS 91 1 _ rfl 94 2 16 bu _ _;(case hvs=>(repeat (first|exact AW.nil|(apply AW.agg;(rfl);(rfl))|(apply AW.one;exact CI;(rfl);(rfl)))));(case hn=>rfl);(case hn0=>decide);(case hns=>decide);clear hS;intro g30 w hS;simp only [List.cons_append,List.nil_append] at hS;refine AB ?_;go_step)|(refine AQ 31 ?_);(refine Ad ?_;apply A4 (o:=⟨some 31,_,_,_,_,_⟩) hS _ _ 91 rfl 94 2 16 bu _ _ _ _ rfl;(case hp=>exact AL);(case hx=>exact rfl);(case hm=>(first|exact hS.slBlk AL (by rfl) (by decide)|exact hS.sl AL|with_reducible assumption|exact Sl.ext (by with_reducible assumption) hS.1|exact Sl.nil _ _|exact Sl.ext (by assumption) hS.1|assumption));(case h1=>(first|exact CO rfl|exact Bu _ _|(intro u hu;cases hu)));(case h63=>unfold maxLen;omega);(case hb=>omega);clear hS;intro ad31 c31 w hS;(first|simp only [DM] at hS|simp only [DN] at hS|simp only [DO] at hS|simp only [DP] at hS|simp only [DQ] at hS|skip);refine AB ?_;go_step)|refine AG ?_;go_step|fail)
   repeat' (first
    | refine AG ?_;go_step|fail)
   go_roundg f
   case measure=>omega
   case rel=>exact ⟨at_+every,m+1,o++[(at_,q)],_,_,by go_num,rfl,by omega,by omega,by omega,AD (by rw [List.length_append,HO.out];rfl),AD (by rw [HA2.out];simp),by rw [HSF.out];exact hS.sub AV⟩
  have hp:A5 n every=o:=by
   rw [HA.out]
   have:Cm n every gk at_=[]:=by
    cases gk with
    | zero=>rfl
    | succ f=>rw [Cm,if_neg hr0]
   rw [this,List.append_nil]
  have HPO:=AD hp
  clear hp
  repeat' (first
   | refine X0 ?_|refine X2 ?_|refine AG ?_;go_step|fail)
  all_goals (try exact AR)
  repeat' (first
   | refine AG ?_;go_step|fail)
  go_ret
  refine ⟨_,_,m,by rw [HPO.out];exact HO.out,rfl,?_⟩
  rw [HPO.out]
  exact hS.sub AV
theorem Ko(w0:World)(k:Nat)(hk:k≤1000000000):Calls Tryz.prog 74 #[.int .i64 k] w0 fun e w=>e= .returned (.int .i64 ((208+k%8:Nat):Int))∧Ai w0 w:=by
 have hS:=St.start w0
 go_enter Tryz.func74,Tryz.ntmps74
 repeat' (first
  | (refine AQ 4 ?_);(refine Ag (.int _ (((k%8:Nat):Int))) (V.as (V.rem rfl rfl (by omega) (by omega)) (by omega)) (by kernel_rfl) ?_;go_step)|(refine AQ 5 ?_);(refine Ag (.int _ (((208+k%8:Nat):Int))) (V.as (V.addI rfl rfl (by omega)) (by omega)) (by kernel_rfl) ?_;go_step)|refine X0 ?_|refine AG ?_;go_step|fail)
 go_ret
 exact ⟨rfl,hS.1⟩
def I2(ms:List Int)(n:Nat):Bool:=(List.range n).all fun k=>decide (AJ ms k=((208+k%8:Nat):Int))
theorem To(ms:List Int)(n:Nat):I2 ms (n+1)=(I2 ms n&&decide (AJ ms n=((208+n%8:Nat):Int))):=by
 unfold I2;rw [List.range_succ,List.all_append];simp
theorem Vp{ms:List Int}{n k:Nat}(hk:k<n)(h:AJ ms k≠((208+k%8:Nat):Int)):I2 ms n=false:=by
 cases e:I2 ms n
 ·rfl
 unfold I2 at e
 rw [List.all_eq_true] at e
 have:=e k (List.mem_range.2 hk)
 exact absurd (of_decide_eq_true this) h
def OE(C1 S1 C2 S2 b:List Int)(n every:Int):Int:=if Lg C1 S1 C2 S2 b n every=0 then match Df b [] [] [] with
 | none=>4
 | some y=>if y.1.length=(A5 n.toNat every.toNat).length then if I2 y.2 y.2.length then 0 else 6 else 4
 else Lg C1 S1 C2 S2 b n every
def RR(w0:World)(E:Int)(b:List Int)(m:Nat)(e:Ending)(w:World):Prop:=
 (E≠0→e= .returned (.tuple #[.slice none 0 0, .int .i64 E])∧Ai w0 w)∧
 (E=0→∃(pcs:List Pc) (ms:List Int) (ao:Option Addr) (co:Nat),Df b [] [] []=some (pcs.map (·.xs),ms)∧pcs.length=m∧e= .returned (.tuple #[.slice ao m co, .int .i64 0])∧St w0 w [own 35 1 ao m co (pcs.map Pc.val),star (pcs.map Pc.res)])
theorem Wv{w0 w:World}{E:Int}{b:List Int}{m:Nat}(E':Int)(h:E=E')(h0:E'≠0)(hE:Ai w0 w):RR w0 E b m (.returned (.tuple #[.slice none 0 0, .int .i64 E'])) w:=by
 subst h
 exact ⟨fun _=>⟨rfl,hE⟩,fun h=>absurd h h0⟩
theorem Ky{C1 S1 C2 S2 b:List Int}{n every:Int}(h:Lg C1 S1 C2 S2 b n every=0):IP n every∧D4 C1 S1 C2 S2=0∧∃y,Df b [] [] []=some y:=by
 unfold Lg at h
 by_cases h1:IP n every
 case neg=>rw [if_neg h1] at h;cases h
 rw [if_pos h1] at h
 by_cases h2:D4 C1 S1 C2 S2=0
 case neg=>rw [if_neg h2] at h;exact absurd h h2
 rw [if_pos h2] at h
 refine ⟨h1,h2,?_⟩
 unfold cL at h
 cases hs:Df b [] [] [] with
 | none=>rw [hs] at h;cases h
 | some y=>exact ⟨y,rfl⟩
theorem FD:∀(b:List Int)(o:List (List Int))(m p:List Int)(ps:List (List Int))(ms:List Int),Df b o m p=some (ps,ms)→ms.length≤m.length+b.length
 | [],o,m,p,ps,ms,h=>by
   rw [Df] at h
   have:=(Prod.mk.injEq _ _ _ _▸ Option.some.inj h:_∧_).2
   rw [←this];simp
 | [x],o,m,p,ps,ms,h=>by
   rw [Df] at h
   split at h
   ·cases h
   have:=FD [] o m (p++[x]) ps ms h
   simp at this⊢;omega
 | x::y::b,o,m,p,ps,ms,h=>by
   rw [Df] at h
   split at h
   ·split at h
    ·cases h
    split at h
    ·have:=FD b o m _ ps ms h
     simp at this⊢;omega
    have:=FD b _ _ _ ps ms h
    simp at this⊢;omega
   have:=FD (y::b) o m (p++[x]) ps ms h
   simp at this⊢;omega
theorem Mm(w0:World)(C1 C2 S1 S2:List Int)(a1 a2:Option Addr)(n1 n2 k1 k2:Nat)(hC1:Al C1 16)(hC2:Al C2 16)(hs1:Sl w0 1 (.slice a1 n1 k1) n1 (S1.map (Value.int .i64)))(hs2:Sl w0 1 (.slice a2 n2 k2) n2 (S2.map (Value.int .i64)))(hn1:n1≤9223372036854775807)(hn2:n2≤9223372036854775807)(ad:Option Addr)(nb c:Nat)(b:List Int)(n every:Int)
 (hb:nb≤1000000000) (hv:Sl w0 1 (.slice ad nb c) nb (b.map (Value.int .u8))) (hx:∀x∈b,0≤x∧x<256):
 Calls Tryz.prog 49 #[.agg (AF [.ints C1, .val (.slice a1 n1 k1), .ints C2, .val (.slice a2 n2 k2)]).toArray, .slice ad nb c, .int .i64 n, .int .i64 every] w0 (RR w0 (OE C1 S1 C2 S2 b n every) b (A5 n.toNat every.toNat).length):=by
 have hS:=St.start w0
 have HX:=AD hx
 clear hx
 by_cases hP:Lg C1 S1 C2 S2 b n every=0
 case neg=>
  obtain ⟨E,hE⟩:∃E,Lg C1 S1 C2 S2 b n every=E:=⟨_,rfl⟩
  have h0:E≠0:=by rw [←hE];exact hP
  have HE:=AD hE
  have HW:=AD (show OE C1 S1 C2 S2 b n every=E by unfold OE;rw [if_neg hP];exact hE)
  clear hP hE
  go_enter Tryz.func49,Tryz.ntmps49
  repeat' (first
   | (refine AQ 20 ?_);refine AM (f:=84) Tryz.call84 AA ?_;refine ⟨_,(FV _ C1 C2 S1 S2 a1 a2 n1 n2 k1 k2 hC1 hC2 (hs1.ext hS.1) (hs2.ext hS.1) hn1 hn2 ad nb c b n every hb (hv.ext hS.1) HX.out),?_⟩;rintro e w ⟨hq,_⟩;rw [HE.out] at hq;obtain ⟨rfl,hE2⟩:=hq h0;clear hq;replace hS:=hS.ext hE2;clear hE2;refine Ac ?_;go_step|refine X0 ?_|refine X6 ?_|refine X4 ?_|refine OI 4 ?_;clear hS;intro g4 w hS|refine P0 ?_|refine AG ?_;go_step|fail)
  all_goals (try exact AR)
  refine AK (xs:=[_,_]) rfl (.cons (AC.tmp rfl) (.cons (AC.tmp rfl) (.nil))) (by simp) rfl ?_
  exact Wv E HW.out h0 hS.1
 obtain ⟨hok,htb,⟨ps,ms⟩,hsp⟩:=Ky hP
 unfold IP at hok
 obtain ⟨N,rfl⟩:∃N:Nat,n=(N:Int):=⟨n.toNat,by omega⟩
 obtain ⟨Ev,rfl⟩:∃N:Nat,every=(N:Int):=⟨every.toNat,by omega⟩
 have HWE:=AD (show OE C1 S1 C2 S2 b N Ev=if ps.length=(A5 N Ev).length then if I2 ms ms.length then 0 else 6 else 4 by unfold OE;rw [if_pos hP,hsp];dsimp only;rw [Int.toNat_natCast,Int.toNat_natCast])
 rw [Int.toNat_natCast,Int.toNat_natCast]
 obtain ⟨M,hM⟩:∃M,(A5 N Ev).length=M:=⟨_,rfl⟩
 rw [hM] at HWE⊢
 have HM:=AD hM
 have HP:=AD hP
 have HSP:=AD hsp
 clear hP hsp hM htb
 obtain ⟨lp,hlp⟩:∃x,ps.length=x:=⟨_,rfl⟩
 obtain ⟨lm0,hlm0⟩:∃x,ms.length=x:=⟨_,rfl⟩
 rw [hlp,hlm0] at HWE
 have HLP:=AD hlp
 have HLM:=AD hlm0
 clear hlp hlm0
 go_enter Tryz.func49,Tryz.ntmps49
 repeat' (first
  | (refine AQ 20 ?_);refine AM (f:=84) Tryz.call84 AA ?_;refine ⟨_,(FV _ C1 C2 S1 S2 a1 a2 n1 n2 k1 k2 hC1 hC2 (hs1.ext hS.1) (hs2.ext hS.1) hn1 hn2 ad nb c b (N:Int) (Ev:Int) hb (hv.ext hS.1) HX.out),?_⟩;rintro e w ⟨_,hq⟩;obtain ⟨pcs,ao,am,co,cm,lo,lm,hlo,hlm,hpc,rfl,hS2⟩:=hq HP.out _ _ HSP.out;clear hq;obtain rfl:lp=lo:=(by rw [hlo];exact HLP.out.symm);obtain rfl:lm0=lm:=(by rw [hlm];exact HLM.out.symm);have HPC:=AD hpc;clear hlo hlm hpc;replace hS:=hS.call hS2;dsimp only [List.cons_append,List.nil_append] at hS;clear hS2;refine Ac ?_;go_step|refine X0 ?_|refine X6 ?_|refine X4 ?_|refine OI 4 ?_;clear hS;intro g4 w hS|refine P0 ?_|refine AG ?_;go_step|fail)
 all_goals (try exact AR)
 by_cases hlen:lp=M
 case neg=>
  have HW:=AD (show OE C1 S1 C2 S2 b N Ev=4 by rw [HWE.out,if_neg hlen])
  repeat' (first
   | (refine AQ 31 ?_);refine AM (f:=50) Tryz.call50 AA ?_;refine ⟨_,(EI _ N Ev (by omega) (by omega)),?_⟩;rintro e w ⟨a3,c3,m3,hm3,rfl,hS2⟩;obtain rfl:M=m3:=(by rw [←hm3];exact HM.out.symm);clear hm3;replace hS:=hS.ext hS2.1;clear hS2;refine Ac ?_;go_step|refine X0 ?_|refine Xl ?_|refine cx ?_|refine Ju ?_|refine AG ?_;go_step|fail)
  all_goals (try exact AR)
  refine AK (xs:=[_,_]) rfl (.cons (AC.tmp rfl) (.cons (AC.tmp rfl) (.nil))) (by simp) rfl ?_
  exact Wv 4 HW.out (by decide) hS.1
 subst hlen
 have HW2:=AD (show OE C1 S1 C2 S2 b N Ev=if I2 ms lm0 then 0 else 6 by rw [HWE.out,if_pos rfl])
 repeat' (first
  | (refine AQ 31 ?_);refine AM (f:=50) Tryz.call50 AA ?_;refine ⟨_,(EI _ N Ev (by omega) (by omega)),?_⟩;rintro e w ⟨a3,c3,m3,hm3,rfl,hS2⟩;obtain rfl:lp=m3:=(by rw [←hm3];exact HM.out.symm);clear hm3;replace hS:=hS.ext hS2.1;clear hS2;refine Ac ?_;go_step|refine X1 ?_|refine Xl ?_|refine cx ?_|refine Ju ?_|refine AG ?_;go_step|fail)
 all_goals (try exact AR)
 repeat' (first
  | refine X1 ?_|refine XC ?_|refine AG ?_;go_step|fail)
 clear HWE
 have hlmb:lm0≤1000000000:=by
  have:=FD b [] [] [] ps ms HSP.out
  have hbl:b.length=nb:=by have:=hv.1;simpa using this
  rw [HLM.out,hbl] at this
  simp at this
  omega
 go_loopg [36] lm0 (fun gk kv w=>∃k:Nat,gk+k=lm0∧kv= .int .i64 k∧Hid (I2 ms k=true)∧St w0 w [own 35 1 ao lp co (pcs.map Pc.val),own 3 1 am lm0 cm (ms.map (Value.int .i64)),star (pcs.map Pc.res)])
 case atStart=>exact ⟨0,rfl,rfl,AD rfl,hS.sub AV⟩
 case round=>
  clear hS
  obtain ⟨k,hk,rfl,HA,hS⟩:=hrel
  by_cases hlt:k<lm0
  ·obtain ⟨g5,rfl⟩:=Ba (a:=am) hS AL (by omega)
   by_cases hq:AJ ms k=((208+k%8:Nat):Int)
   ·have HA2:=AD (show I2 ms (k+1)=true by rw [To,HA.out,decide_eq_true hq];rfl)
    repeat' (first
     | (refine AQ 43 ?_);refine AM (f:=74) Tryz.call74 AA ?_;refine ⟨_,(Ko _ k (by omega)),?_⟩;rintro e w ⟨rfl,hE2⟩;replace hS:=hS.ext hE2;clear hE2;refine Ac ?_;go_step|refine X0 ?_|refine X2 ?_|refine XJ 39 ?_|refine Ju ?_|refine dm ?_|refine AG ?_;go_step|fail)
    all_goals (try exact AR)
    repeat' (first
     | refine X1 ?_|refine X7 ?_|refine AG ?_;go_step|fail)
    go_roundg (gk-1)
    case measure=>omega
    case rel=>exact ⟨k+1,by omega,by go_num,HA2,hS.sub AV⟩
   have HW:=AD (show OE C1 S1 C2 S2 b N Ev=6 by rw [HW2.out,Vp hlt hq];rfl)
   repeat' (first
    | (refine AQ 43 ?_);refine AM (f:=74) Tryz.call74 AA ?_;refine ⟨_,(Ko _ k (by omega)),?_⟩;rintro e w ⟨rfl,hE2⟩;replace hS:=hS.ext hE2;clear hE2;refine Ac ?_;go_step|refine X0 ?_|refine X2 ?_|refine XJ 39 ?_|refine Ju ?_|refine dm ?_|refine AG ?_;go_step|fail)
   all_goals (try exact AR)
   refine AK (xs:=[_,_]) rfl (.cons (AC.tmp rfl) (.cons (AC.tmp rfl) (.nil))) (by simp) rfl ?_
   exact Wv 6 HW.out (by decide) hS.1
  obtain rfl:k=lm0:=by omega
  have HW:=AD (show OE C1 S1 C2 S2 b N Ev=0 by rw [HW2.out,if_pos HA.out])
  repeat' (first
   | refine X0 ?_|refine X2 ?_|refine AG ?_;go_step|fail)
  repeat' (first
   | refine AG ?_;go_step|fail)
  refine AK (xs:=[_,_]) rfl (.cons (AC.tmp rfl) (.cons (AC.tmp rfl) (.nil))) (by simp) rfl ?_
  exact ⟨fun h=>absurd HW.out h,fun _=>⟨pcs,ms,ao,co,by rw [HPC.out];exact HSP.out,by have:=congrArg List.length HPC.out;rw [List.length_map,HLP.out] at this;exact this,rfl,hS.sub AV⟩⟩
end Go.Proofs.YtohacgmhmbijmaaGreatDoor
