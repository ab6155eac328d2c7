/- What the laws FrameThree need, part 10. -/
import Derived.Test.YtohacgmhmbijmaaGreatDoorBaseTZ2
import Derived.Test.YtohacgmhmbijmaaGreatDoorBaseTZ3
import Derived.Test.YtohacgmhmbijmaaGreatDoorBaseTZ6
import Derived.Test.YtohacgmhmbijmaaGreatDoorBaseTZ8
import Derived.Test.YtohacgmhmbijmaaGreatDoorBaseTZ9
namespace Go.Proofs.YtohacgmhmbijmaaGreatDoor
attribute [local irreducible] Region.wanted
open Go.RowKit
set_option linter.unusedVariables false
set_option maxRecDepth 100000
set_option maxHeartbeats 8000000
def CB(b:Bool)(s:Int):Int:=if b then s else s%16
def Ar(L1 L2:List (Int×Nat×Nat))(l:List Nat)(i:Nat)(b:Bool):CF×Int×Nat:=
 if (GH (if b then L1 else L2) l i 16 0).2.1≠0 then ((0,0,0),(GH (if b then L1 else L2) l i 16 0).2.1,(GH (if b then L1 else L2) l i 16 0).2.2) else
 if 12<CB b (GH (if b then L1 else L2) l i 16 0).1∨(b=false∧11<CB b (GH (if b then L1 else L2) l i 16 0).1) then ((0,0,0),4,(GH (if b then L1 else L2) l i 16 0).2.2) else
 if 8*l.length<(GH (if b then L1 else L2) l i 16 0).2.2+(CB b (GH (if b then L1 else L2) l i 16 0).1).toNat then ((0,0,0),3,(GH (if b then L1 else L2) l i 16 0).2.2)
 else (((GH (if b then L1 else L2) l i 16 0).1,CB b (GH (if b then L1 else L2) l i 16 0).1,(BF l (GH (if b then L1 else L2) l i 16 0).2.2 (CB b (GH (if b then L1 else L2) l i 16 0).1).toNat:Nat)),0,(GH (if b then L1 else L2) l i 16 0).2.2+(CB b (GH (if b then L1 else L2) l i 16 0).1).toNat)
def LS(gc gr:Nat)(L1 L2:List (Int×Nat×Nat))(ad:Option Addr)(n c:Nat)(l:List Nat)(i:Nat):Au:=Zk fun _:{_u:Unit // i≤8*n}=>[YQ gc L1 L2,RE gr ad n c i l]
theorem P8(W w0:World)(rs rs':List Au)(gc gr:Nat)(L1 L2:List (Int×Nat×Nat))(ad:Option Addr)(n c:Nat)(l:List Nat)(i:Nat)(b:Bool)(t0 t1 t2 er:Int)(s':Nat)(hL1:Ci L1)(hL2:Ci L2)(hl:∀x∈l,x<256)(hn:n≤1000000000000000000)(hS:St W w0 rs)(hp:AT (LS gc gr L1 L2 ad n c l i) rs rs')(hnx:Ar L1 L2 l i b=((t0,t1,t2),er,s')):
 Calls Tryz.prog 175 #[.agg #[.pointer (some ⟨gc,0,none⟩), .pointer (some ⟨gr,0,none⟩)], .bool b] w0 fun e w=>e= .returned (.tuple #[.agg #[.int .i64 t0, .int .i64 t1, .int .i64 t2], .int .i64 er])∧St W w (LS gc gr L1 L2 ad n c l s'::rs'):=by
 obtain ⟨⟨_,hi⟩,hS⟩:=(hS.pull hp).open
 obtain ⟨⟨p1,p2⟩,hS⟩:=(hS.pull .head).open
 replace hS:St W w0 (blk gc [.pointer (some ⟨p1,0,none⟩), .pointer (some ⟨p2,0,none⟩)]::Ju p1 L1::Ju p2 L2::RE gr ad n c i l::rs'):=hS
 clear hp
 have hln:l.length=n:=RF hS (.head) (.tail (.tail .head))
 obtain ⟨L,hL⟩:∃L,(if b then L1 else L2)=L:=⟨_,rfl⟩
 obtain ⟨gb,hgb⟩:∃x,(if b then p1 else p2)=x:=⟨_,rfl⟩
 have hGL:Ci L:=by rw [←hL];cases b<;>assumption
 have HGB:=AD hgb
 obtain ⟨r2,hS2,hC⟩:∃r2,St W w0 (Ju gb L::r2::blk gc [.pointer (some ⟨p1,0,none⟩), .pointer (some ⟨p2,0,none⟩)]::RE gr ad n c i l::rs')∧∀w i rs,i≤8*n→St W w (Ju gb L::r2::blk gc [.pointer (some ⟨p1,0,none⟩), .pointer (some ⟨p2,0,none⟩)]::RE gr ad n c i l::rs)→St W w (LS gc gr L1 L2 ad n c l i::rs):=by
  have key:∀w i rs,i≤8*n→St W w (blk gc [.pointer (some ⟨p1,0,none⟩), .pointer (some ⟨p2,0,none⟩)]::Ju p1 L1::Ju p2 L2::RE gr ad n c i l::rs)→St W w (LS gc gr L1 L2 ad n c l i::rs):=fun w i rs hi h=>by
   refine St.close ⟨(),hi⟩ ?_
   refine St.close (p1,p2) ?_
   exact h
  cases b
  ·obtain rfl:L2=L:=by simpa using hL
   obtain rfl:p2=gb:=by simpa using hgb
   exact ⟨Ju p1 L1,hS.sub AV,fun w i rs hi h=>key w i rs hi (h.sub AV)⟩
  obtain rfl:L1=L:=by simpa using hL
  obtain rfl:p1=gb:=by simpa using hgb
  exact ⟨Ju p2 L2,hS.sub AV,fun w i rs hi h=>key w i rs hi (h.sub AV)⟩
 unfold Ar at hnx
 rw [hL] at hnx
 obtain ⟨⟨sy,ge,gi⟩,hG⟩:∃y,GH L l i 16 0=y:=⟨_,rfl⟩
 rw [hG] at hnx
 dsimp only at hnx
 have hsym:ge=0→0≤sy∧sy<256:=fun h=>by
  have h0:=YU (L:=L) l i 16 0 (by rw [hG];exact h)
  obtain ⟨m,_,_,_,_,hm⟩:=h0
  rw [hG] at hm
  exact hGL.range _ hm
 clear hS hL hgb
 have hS:=hS2
 have HC:=AD hC
 have HG:=AD hG
 have HLt:=AD hl
 clear hS2 hC hG hl
 by_cases hge:ge=0
 case neg=>
  rw [if_pos hge] at hnx
  obtain ⟨⟨rfl,rfl,rfl⟩,rfl,rfl⟩:((0:Int)=t0∧(0:Int)=t1∧(0:Int)=t2)∧ge=er∧gi=s':=by simpa using hnx
  clear hnx hsym
  go_enter Tryz.func175,Tryz.ntmps175
  repeat' (first
   | refine X8 ?_|refine V4 2 ?_;clear hS;intro g2 w hS|refine II 4 ?_;clear hS;intro g4 w hS|refine AG ?_;go_step|fail)
  refine AQ [6] (fun w=>St W w [blk g2 [.pointer (some ⟨gc,0,none⟩), .pointer (some ⟨gr,0,none⟩)]]) AA ?_
  replace hS:=hS.drew
  focus
   refine Bf 0 BU (V.fieldAddr JR rfl BO) ?_;go_step
   refine au 1 [3,6,7,8,9,10,11] ?_
   refine Ab 2 ?_
   refine Bf 4 BU (V.fieldAddr Hb rfl BO) ?_;go_step
   refine cT 5 [6,7,8,9,10,11] ?_
   refine Aa 3 ?_
   refine Af (f:=109) rfl Tryz.call109 (IU W _ _ _ gc p1 p2 b hS AJ) ?_;rintro e w ⟨rfl,hE⟩;replace hS:=hS.ext hE;clear hE;rw [HGB.out];refine ⟨_,rfl,?_⟩
   refine ⟨fun _ _=>hS.sub AV,?_⟩
   refine AF ?_
   go_step
   refine Aa 6 ?_
   refine Af (f:=176) rfl Tryz.call176 (E7 W _ _ _ _ gb gr n c i ad L l hS AJ AJ HLt.out hn hi) ?_;clear hS;rw [HG.out];rintro e w ⟨rfl,hgi,hS⟩;dsimp only at hgi hS;refine ⟨_,rfl,?_⟩
   refine ⟨fun h=>absurd (by decide) h,?_⟩
   refine AF ?_
   go_step
   refine Ab 7 ?_
   refine Y4 8 ?_
   refine Y4 9 ?_
   refine Ab 10 ?_
   refine Ab 11 ?_
   refine AE AA ?_ _
  all_goals
   repeat' (first
    | refine X0 ?_|refine X3 ?_|refine WS 23 ?_|refine H9 ?_;clear hS;intro w hS|refine AG ?_;go_step|fail)
   all_goals (try exact AW)
   refine AM (xs:=[_,_]) rfl (.cons (AC.blk hS rfl (AP (n:=3) rfl) AJ rfl) (.cons (AC.tmp rfl) (.nil))) (by simp) rfl ?_
   exact ⟨rfl,HC.out _ _ _ hgi (hS.sub AV)⟩
 subst hge
 have hsy:=hsym rfl
 clear hsym
 rw [if_neg (by simp)] at hnx
 have HAnd:=AD (TZ sy (by omega))
 obtain ⟨k,hk⟩:∃k:Nat,CB b sy=(k:Int):=⟨(CB b sy).toNat,by unfold CB;split<;>omega⟩
 rw [hk] at hnx
 have HK:=AD hk
 have hk256:k<256:=by unfold CB at hk;split at hk<;>omega
 clear hk
 by_cases hbad:12<(k:Int)∨(b=false∧11<(k:Int))
 ·rw [if_pos hbad] at hnx
  obtain ⟨⟨rfl,rfl,rfl⟩,rfl,rfl⟩:((0:Int)=t0∧(0:Int)=t1∧(0:Int)=t2)∧(4:Int)=er∧gi=s':=by simpa using hnx
  clear hnx
  go_enter Tryz.func175,Tryz.ntmps175
  repeat' (first
   | refine X8 ?_|refine V4 2 ?_;clear hS;intro g2 w hS|refine II 4 ?_;clear hS;intro g4 w hS|refine AG ?_;go_step|fail)
  refine AQ [6] (fun w=>St W w [blk g2 [.pointer (some ⟨gc,0,none⟩), .pointer (some ⟨gr,0,none⟩)]]) AA ?_
  replace hS:=hS.drew
  focus
   refine Bf 0 BU (V.fieldAddr JR rfl BO) ?_;go_step
   refine au 1 [3,6,7,8,9,10,11] ?_
   refine Ab 2 ?_
   refine Bf 4 BU (V.fieldAddr Hb rfl BO) ?_;go_step
   refine cT 5 [6,7,8,9,10,11] ?_
   refine Aa 3 ?_
   refine Af (f:=109) rfl Tryz.call109 (IU W _ _ _ gc p1 p2 b hS AJ) ?_;rintro e w ⟨rfl,hE⟩;replace hS:=hS.ext hE;clear hE;rw [HGB.out];refine ⟨_,rfl,?_⟩
   refine ⟨fun _ _=>hS.sub AV,?_⟩
   refine AF ?_
   go_step
   refine Aa 6 ?_
   refine Af (f:=176) rfl Tryz.call176 (E7 W _ _ _ _ gb gr n c i ad L l hS AJ AJ HLt.out hn hi) ?_;clear hS;rw [HG.out];rintro e w ⟨rfl,hgi,hS⟩;dsimp only at hgi hS;refine ⟨_,rfl,?_⟩
   refine ⟨fun h=>absurd (by decide) h,?_⟩
   refine AF ?_
   go_step
   refine Ab 7 ?_
   refine Y4 8 ?_
   refine Y4 9 ?_
   refine Ab 10 ?_
   refine Ab 11 ?_
   refine AE AA ?_ _
  all_goals
   cases b
   ·have hk1:=AD (show sy%16=(k:Int) from HK.out)
    have hk2:11<k:=by rcases hbad with h|⟨_,h⟩<;>omega
    clear hbad
    repeat' (first
     | refine X1 ?_|refine X3 ?_|refine AG ?_;go_step|fail)
    all_goals (try exact AW)
    repeat' (first
     | refine ZP 27 ?_|refine X1 ?_|refine ag 28 ?_|refine II 8 ?_;clear hS;intro g8 w hS|refine H9 ?_;clear hS;intro w hS|refine AG ?_;go_step|fail)
    repeat' (first
     | go_skip|((first|(with_reducible refine JG ?_)|(with_reducible refine QW ?_));(first|go_big_want|go_step);go_step)|((with_reducible refine An _ (.pick _ _ _) ?_);first|(refine BJ rfl AA ?_;go_step)|(refine BC rfl AA ?_;go_step))|((refine AS 34 ?_);(refine Cg _ (V.gtr rfl rfl) AA (fun hB=>?_) (fun hB=>?_)<;>(try exact AW)<;>go_step))|((refine AS 37 ?_);(refine aJ _ (V.not rfl) AA (fun hB=>?_) (fun hB=>?_)<;>(try exact JX hB)<;>go_step))|((with_reducible refine An _ (.fieldAddr 155 _ 1) ?_);(refine As AA (V.fieldAddr MS rfl BO) ?_;go_step))|((with_reducible refine An _ (.binOp .gtr _ _ _ _) ?_);(refine As AA (V.gtr rfl rfl) ?_;go_step))|((refine AS 44 ?_);(refine As AA (V.build (vs:=[]) rfl (Tc)) ?_;go_step))|((with_reducible refine An _ (.load 3 _) ?_);(refine Ag ?_;apply AY hS 3 _ rfl _ _ rfl (AH rfl) _;(case hp=>exact AJ);(case hc=>rfl);refine AB ?_;go_step))|((with_reducible refine An _ (.store 155 _ _) ?_);(refine Ag ?_;apply CV hS 155 _ _ rfl _ rfl 3 (AP rfl) _ _;(case hp=>exact AJ);(case hy=>rfl);(case hn=>rfl);(case hn'=>rfl);(case hv=>rfl);(case hd=>exact rfl);clear hS;intro w hS))|(refine AG ?_;go_step)|fail)
    all_goals (try exact AW)
    all_goals
     refine AM (xs:=[_,_]) rfl (.cons (AC.blk hS rfl (AP (n:=3) rfl) AJ rfl) (.cons (AC.tmp rfl) (.nil))) (by simp) rfl ?_
     exact ⟨rfl,HC.out _ _ _ hgi (hS.sub AV)⟩
   obtain rfl:sy=(k:Int):=HK.out
   have hk2:12<k:=by rcases hbad with h|⟨h,_⟩<;>first|omega|cases h
   clear hbad
   repeat' (first
    | refine X1 ?_|refine X3 ?_|refine AG ?_;go_step|fail)
   all_goals (try exact AW)
   repeat' (first
    | refine ZO 27 ?_|go_skip|refine X0 ?_|refine FJ ?_|refine JM 34 ?_ ?_<;>intro hB<;>(try exact AW)<;>go_step|refine ag 28 ?_|refine QS ?_|refine WS 44 ?_|refine II 8 ?_;clear hS;intro g8 w hS|refine H9 ?_;clear hS;intro w hS|refine aU ?_;clear hS;intro w hS|refine X9 ?_|refine AG ?_;go_step|fail)
   all_goals (try exact AW)
   all_goals
    refine AM (xs:=[_,_]) rfl (.cons (AC.blk hS rfl (AP (n:=3) rfl) AJ rfl) (.cons (AC.tmp rfl) (.nil))) (by simp) rfl ?_
    exact ⟨rfl,HC.out _ _ _ hgi (hS.sub AV)⟩
 rw [if_neg hbad,hln,Int.toNat_natCast] at hnx
 have hkb:k≤12∧(b=false→k≤11):=by
  refine ⟨by omega,fun h=>?_⟩
  rcases Nat.lt_or_ge 11 k with h1|h1
  ·exact absurd (.inr ⟨h,by omega⟩) hbad
  exact h1
 by_cases hsh:8*n<gi+k
 ·rw [if_pos hsh] at hnx
  obtain ⟨⟨rfl,rfl,rfl⟩,rfl,rfl⟩:((0:Int)=t0∧(0:Int)=t1∧(0:Int)=t2)∧(3:Int)=er∧gi=s':=by simpa using hnx
  clear hnx hbad
  go_enter Tryz.func175,Tryz.ntmps175
  repeat' (first
   | refine X8 ?_|refine V4 2 ?_;clear hS;intro g2 w hS|refine II 4 ?_;clear hS;intro g4 w hS|refine AG ?_;go_step|fail)
  refine AQ [6] (fun w=>St W w [blk g2 [.pointer (some ⟨gc,0,none⟩), .pointer (some ⟨gr,0,none⟩)]]) AA ?_
  replace hS:=hS.drew
  focus
   refine Bf 0 BU (V.fieldAddr JR rfl BO) ?_;go_step
   refine au 1 [3,6,7,8,9,10,11] ?_
   refine Ab 2 ?_
   refine Bf 4 BU (V.fieldAddr Hb rfl BO) ?_;go_step
   refine cT 5 [6,7,8,9,10,11] ?_
   refine Aa 3 ?_
   refine Af (f:=109) rfl Tryz.call109 (IU W _ _ _ gc p1 p2 b hS AJ) ?_;rintro e w ⟨rfl,hE⟩;replace hS:=hS.ext hE;clear hE;rw [HGB.out];refine ⟨_,rfl,?_⟩
   refine ⟨fun _ _=>hS.sub AV,?_⟩
   refine AF ?_
   go_step
   refine Aa 6 ?_
   refine Af (f:=176) rfl Tryz.call176 (E7 W _ _ _ _ gb gr n c i ad L l hS AJ AJ HLt.out hn hi) ?_;clear hS;rw [HG.out];rintro e w ⟨rfl,hgi,hS⟩;dsimp only at hgi hS;refine ⟨_,rfl,?_⟩
   refine ⟨fun h=>absurd (by decide) h,?_⟩
   refine AF ?_
   go_step
   refine Ab 7 ?_
   refine Y4 8 ?_
   refine Y4 9 ?_
   refine Ab 10 ?_
   refine Ab 11 ?_
   refine AE AA ?_ _
  all_goals
   cases b
   ·have hk1:=AD (show sy%16=(k:Int) from HK.out)
    have hk2:=hkb.2 rfl
    clear hkb
    repeat' (first
     | refine X1 ?_|refine X3 ?_|refine AG ?_;go_step|fail)
    all_goals (try exact AW)
    repeat' (first
     | refine ZP 27 ?_|refine X1 ?_|refine ag 28 ?_|refine II 8 ?_;clear hS;intro g8 w hS|refine H9 ?_;clear hS;intro w hS|refine AG ?_;go_step|fail)
    repeat' (first
     | refine X1 ?_|refine IL ?_|refine JM 34 ?_ ?_<;>intro hB<;>(try exact AW)<;>go_step|refine Jk 37 ?_ ?_<;>intro hB<;>(try exact JX hB)<;>go_step|refine QS ?_|refine Gv ?_|refine X9 ?_|refine AG ?_;go_step|fail)
    all_goals (try exact AW)
    repeat' (first
     | (refine AS 50 ?_);refine AN (f:=90) Tryz.call90 AA ?_;refine ⟨_,(DY W _ _ _ gr n c gi k ad l hS AJ HLt.out hn hgi (by omega)),?_⟩;rintro e w ⟨hq,_⟩;obtain ⟨rfl,hS2⟩:=hq hsh;clear hq hS;have hS:=hS2;clear hS2;refine Ae ?_;go_step|refine X0 ?_|refine Za ?_|refine QS ?_|refine X6 ?_|refine NW ?_|refine WS 55 ?_|refine Zd ?_|refine X9 ?_|refine H9 ?_;clear hS;intro w hS|refine AG ?_;go_step|fail)
    refine AM (xs:=[_,_]) rfl (.cons (AC.blk hS rfl (AP (n:=3) rfl) AJ rfl) (.cons (AC.tmp rfl) (.nil))) (by simp) rfl ?_
    exact ⟨rfl,HC.out _ _ _ hgi (hS.sub AV)⟩
   obtain rfl:sy=(k:Int):=HK.out
   have hk2:=hkb.1
   clear hkb
   repeat' (first
    | refine X1 ?_|refine X3 ?_|refine AG ?_;go_step|fail)
   all_goals (try exact AW)
   repeat' (first
    | refine ZO 27 ?_|go_skip|refine X1 ?_|refine Gz ?_|refine JM 34 ?_ ?_<;>intro hB<;>(try exact AW)<;>go_step|refine Jk 37 ?_ ?_<;>intro hB<;>(try exact JX hB)<;>go_step|refine ag 28 ?_|refine QS ?_|refine II 8 ?_;clear hS;intro g8 w hS|refine H9 ?_;clear hS;intro w hS|refine aU ?_;clear hS;intro w hS|refine X9 ?_|refine AG ?_;go_step|fail)
   all_goals (try exact AW)
   repeat' (first
    | (refine AS 50 ?_);refine AN (f:=90) Tryz.call90 AA ?_;refine ⟨_,(DY W _ _ _ gr n c gi k ad l hS AJ HLt.out hn hgi (by omega)),?_⟩;rintro e w ⟨hq,_⟩;obtain ⟨rfl,hS2⟩:=hq hsh;clear hq hS;have hS:=hS2;clear hS2;refine Ae ?_;go_step|refine X0 ?_|refine Za ?_|refine QS ?_|refine X6 ?_|refine NW ?_|refine WS 55 ?_|refine Zd ?_|refine X9 ?_|refine H9 ?_;clear hS;intro w hS|refine AG ?_;go_step|fail)
   refine AM (xs:=[_,_]) rfl (.cons (AC.blk hS rfl (AP (n:=3) rfl) AJ rfl) (.cons (AC.tmp rfl) (.nil))) (by simp) rfl ?_
   exact ⟨rfl,HC.out _ _ _ hgi (hS.sub AV)⟩
 rw [if_neg hsh] at hnx
 obtain ⟨⟨rfl,rfl,rfl⟩,rfl,rfl⟩:(sy=t0∧(k:Int)=t1∧((BF l gi k:Nat):Int)=t2)∧(0:Int)=er∧gi+k=s':=by simpa using hnx
 clear hnx hbad
 go_enter Tryz.func175,Tryz.ntmps175
 repeat' (first
  | refine X8 ?_|refine V4 2 ?_;clear hS;intro g2 w hS|refine II 4 ?_;clear hS;intro g4 w hS|refine AG ?_;go_step|fail)
 refine AQ [6] (fun w=>St W w [blk g2 [.pointer (some ⟨gc,0,none⟩), .pointer (some ⟨gr,0,none⟩)]]) AA ?_
 replace hS:=hS.drew
 focus
  refine Bf 0 BU (V.fieldAddr JR rfl BO) ?_;go_step
  refine au 1 [3,6,7,8,9,10,11] ?_
  refine Ab 2 ?_
  refine Bf 4 BU (V.fieldAddr Hb rfl BO) ?_;go_step
  refine cT 5 [6,7,8,9,10,11] ?_
  refine Aa 3 ?_
  refine Af (f:=109) rfl Tryz.call109 (IU W _ _ _ gc p1 p2 b hS AJ) ?_;rintro e w ⟨rfl,hE⟩;replace hS:=hS.ext hE;clear hE;rw [HGB.out];refine ⟨_,rfl,?_⟩
  refine ⟨fun _ _=>hS.sub AV,?_⟩
  refine AF ?_
  go_step
  refine Aa 6 ?_
  refine Af (f:=176) rfl Tryz.call176 (E7 W _ _ _ _ gb gr n c i ad L l hS AJ AJ HLt.out hn hi) ?_;clear hS;rw [HG.out];rintro e w ⟨rfl,hgi,hS⟩;dsimp only at hgi hS;refine ⟨_,rfl,?_⟩
  refine ⟨fun h=>absurd (by decide) h,?_⟩
  refine AF ?_
  go_step
  refine Ab 7 ?_
  refine Y4 8 ?_
  refine Y4 9 ?_
  refine Ab 10 ?_
  refine Ab 11 ?_
  refine AE AA ?_ _
 all_goals
  cases b
  ·have hk1:=AD (show sy%16=(k:Int) from HK.out)
   have hk2:=hkb.2 rfl
   clear hkb
   repeat' (first
    | refine X1 ?_|refine X3 ?_|refine AG ?_;go_step|fail)
   all_goals (try exact AW)
   repeat' (first
    | refine ZP 27 ?_|refine X1 ?_|refine ag 28 ?_|refine II 8 ?_;clear hS;intro g8 w hS|refine H9 ?_;clear hS;intro w hS|refine AG ?_;go_step|fail)
   repeat' (first
    | refine X1 ?_|refine IL ?_|refine JM 34 ?_ ?_<;>intro hB<;>(try exact AW)<;>go_step|refine Jk 37 ?_ ?_<;>intro hB<;>(try exact JX hB)<;>go_step|refine QS ?_|refine Gv ?_|refine X9 ?_|refine AG ?_;go_step|fail)
   all_goals (try exact AW)
   repeat' (first
    | (refine AS 50 ?_);refine AN (f:=90) Tryz.call90 AA ?_;refine ⟨_,(DY W _ _ _ gr n c gi k ad l hS AJ HLt.out hn hgi (by omega)),?_⟩;rintro e w ⟨_,hq⟩;obtain ⟨rfl,hS2⟩:=hq (by omega);clear hq hS;have hS:=hS2;clear hS2;refine Ae ?_;go_step|refine X0 ?_|refine Za ?_|refine QS ?_|refine X6 ?_|refine NW ?_|refine Zd ?_|refine X9 ?_|refine AG ?_;go_step|fail)
   all_goals (try exact AW)
   repeat' (first
    | refine X8 ?_|refine Zb ?_|refine aU ?_;clear hS;intro w hS|refine QT ?_|refine H9 ?_;clear hS;intro w hS|refine AG ?_;go_step|fail)
   refine AM (xs:=[_,_]) rfl (.cons (AC.blk hS rfl (AP (n:=3) rfl) AJ rfl) (.cons (AC.tmp rfl) (.nil))) (by simp) rfl ?_
   exact ⟨rfl,HC.out _ _ _ (by omega) (hS.sub AV)⟩
  obtain rfl:sy=(k:Int):=HK.out
  have hk2:=hkb.1
  clear hkb
  repeat' (first
   | refine X1 ?_|refine X3 ?_|refine AG ?_;go_step|fail)
  all_goals (try exact AW)
  repeat' (first
   | refine ZO 27 ?_|go_skip|refine X1 ?_|refine Gz ?_|refine JM 34 ?_ ?_<;>intro hB<;>(try exact AW)<;>go_step|refine Jk 37 ?_ ?_<;>intro hB<;>(try exact JX hB)<;>go_step|refine ag 28 ?_|refine QS ?_|refine II 8 ?_;clear hS;intro g8 w hS|refine H9 ?_;clear hS;intro w hS|refine aU ?_;clear hS;intro w hS|refine X9 ?_|refine AG ?_;go_step|fail)
  all_goals (try exact AW)
  repeat' (first
   | (refine AS 50 ?_);refine AN (f:=90) Tryz.call90 AA ?_;refine ⟨_,(DY W _ _ _ gr n c gi k ad l hS AJ HLt.out hn hgi (by omega)),?_⟩;rintro e w ⟨_,hq⟩;obtain ⟨rfl,hS2⟩:=hq (by omega);clear hq hS;have hS:=hS2;clear hS2;refine Ae ?_;go_step|refine X0 ?_|refine Za ?_|refine QS ?_|refine X6 ?_|refine NW ?_|refine Zd ?_|refine X9 ?_|refine AG ?_;go_step|fail)
  all_goals (try exact AW)
  repeat' (first
   | refine X8 ?_|refine Zb ?_|refine aU ?_;clear hS;intro w hS|refine QT ?_|refine H9 ?_;clear hS;intro w hS|refine AG ?_;go_step|fail)
  refine AM (xs:=[_,_]) rfl (.cons (AC.blk hS rfl (AP (n:=3) rfl) AJ rfl) (.cons (AC.tmp rfl) (.nil))) (by simp) rfl ?_
  exact ⟨rfl,HC.out _ _ _ (by omega) (hS.sub AV)⟩
def Bd(b:List Int):Prop:=b.length=64∧∀i,i<64→ -2047≤AK b i∧AK b i≤2047
theorem Bd.set{b:List Int}(h:Bd b)(i:Nat)(n:Int)(hn: -2047≤n∧n≤2047)(hi:i<64):Bd (b.set i n):=by
 refine ⟨by rw [List.length_set];exact h.1,fun j hj=>?_⟩
 rw [CL _ _ _ _ (by rw [h.1];exact hi)]
 split
 ·exact hn
 exact h.2 j hj
theorem XG(t:CF)(h:K5 t=false): -2047≤Cw t∧Cw t≤2047:=by
 obtain ⟨t0,t1,t2⟩:=t
 have hiff:=QY t0 t1 t2
 rw [h] at hiff
 by_cases hB:OP t1 t2=true
 ·have h11:t1≤11:=by
   by_cases h1:t1≤11
   ·exact h1
   have:=hiff.2 (.inr (.inl (by omega)));cases this
  have:=(JV t0 t1 t2 hB).2.2 h11
  omega
 have:=hiff.2 (.inl (by simpa using hB));cases this
theorem Pw(i:Nat):AK (List.replicate 64 (0:Int)) i=0:=by
 unfold AK List.getD
 rw [List.getElem?_replicate]
 split<;>rfl
theorem SF(n:Int)(h: -2047≤n∧n≤2047):Bd (B6 n):=by
 unfold B6
 exact Bd.set ⟨List.length_replicate,fun i hi=>by rw [Pw];omega⟩ 0 n h (by omega)
theorem Pz{before:Int}{t:CF}(h:Bk before t=true): -2047≤before+Cw t∧before+Cw t≤2047:=by
 unfold Bk at h
 simp only [Bool.and_eq_true,decide_eq_true_eq] at h
 exact h.2
def O6{σ:Type}(next:σ→Bool→CF×Int×σ):List (CF×Bool)→σ→σ→Prop
 | [],s,s'=>s=s'
 | x::r,s,s'=>(next s x.2).1=x.1∧(next s x.2).2.1=0∧O6 next r (next s x.2).2.2 s'
theorem O6.app{σ:Type}{next:σ→Bool→CF×Int×σ}:∀{A B:List (CF×Bool)} {s s1 s2:σ},O6 next A s s1→O6 next B s1 s2→O6 next (A++B) s s2
 | [],B,s,s1,s2,h,k=>by rw [show s=s1 from h];exact k
 | x::A,B,s,s1,s2,h,k=>⟨h.1,h.2.1,O6.app h.2.2 k⟩
theorem N0{σ:Type}{next:σ→Bool→CF×Int×σ}:∀{A:List CF} {s s':σ},Ed next A s s'→O6 next (A.map fun x=>(x,false)) s s'
 | [],s,s',h=>h
 | t::A,s,s',h=>⟨h.1,h.2.1,N0 h.2.2⟩
section
variable{σ:Type}(next:σ→Bool→CF×Int×σ)
theorem J9:∀(f at_:Nat)(b:List Int)(all:List CF)(s:σ),(BN next f at_ b all s).1=0→Bd b→
 ∃c,(BN next f at_ b all s).2.2.1=all++c∧Ed next c s (BN next f at_ b all s).2.2.2∧Bd (BN next f at_ b all s).2.1
 | 0,at_,b,all,s,h,hb=>⟨[],by simp [BN],by simp [BN,Ed],hb⟩
 | f+1,at_,b,all,s,h,hb=>by
   rw [BN] at h⊢
   by_cases h64:64≤at_
   ·rw [if_pos h64] at h⊢
    exact ⟨[],by simp,rfl,hb⟩
   rw [if_neg h64] at h⊢
   by_cases he:(next s false).2.1≠0
   ·rw [if_pos he] at h;exact absurd h he
   rw [if_neg he] at h⊢
   have he0:(next s false).2.1=0:=by simpa using he
   by_cases hbad:K5 (next s false).1=true
   ·rw [if_pos hbad] at h;cases h
   rw [if_neg hbad] at h⊢
   by_cases h0:(next s false).1.1=0
   ·rw [if_pos h0] at h⊢
    exact ⟨[(next s false).1],rfl,⟨rfl,he0,rfl⟩,hb⟩
   rw [if_neg h0] at h⊢
   by_cases h240:(next s false).1.1=240
   ·rw [if_pos h240] at h⊢
    by_cases h16:64<at_+16
    ·rw [if_pos h16] at h;cases h
    rw [if_neg h16] at h⊢
    obtain ⟨c,k1,k2,k3⟩:=J9 f _ b _ _ h hb
    exact ⟨(next s false).1::c,by rw [k1,List.append_assoc];rfl,⟨rfl,he0,k2⟩,k3⟩
   rw [if_neg h240] at h⊢
   by_cases hq:64≤at_+(next s false).1.1.toNat/16
   ·rw [if_pos hq] at h;cases h
   rw [if_neg hq] at h⊢
   obtain ⟨c,k1,k2,k3⟩:=J9 f _ _ _ _ h (hb.set _ _ (XG _ (by simpa using hbad)) (by omega))
   exact ⟨(next s false).1::c,by rw [k1,List.append_assoc];rfl,⟨rfl,he0,k2⟩,k3⟩
theorem Qx(before:Int)(s:σ)(h:(DM next before s).1=0):∃z,Bd z∧(DM next before s).2.1=CX z∧BV before z=(DM next before s).2.2.1∧O6 next (Ej (BV before z)) s (DM next before s).2.2.2:=by
 unfold DM at h⊢
 by_cases h1:(next s true).2.1≠0
 ·rw [if_pos h1] at h;exact absurd h h1
 rw [if_neg h1] at h⊢
 by_cases h2:Bk before (next s true).1=false
 ·rw [if_pos h2] at h;cases h
 rw [if_neg h2] at h⊢
 have h2':Bk before (next s true).1=true:=by simpa using h2
 obtain ⟨q,hq⟩:∃q,BN next 64 1 (B6 (before+Cw (next s true).1)) [(next s true).1] (next s true).2.2=q:=⟨_,rfl⟩
 rw [hq] at h⊢
 by_cases h3:q.1≠0
 ·rw [if_pos h3] at h;exact absurd h h3
 rw [if_neg h3] at h⊢
 by_cases h4:BV before q.2.1=q.2.2.1
 ·obtain ⟨zf,hzf⟩:∃y,CX q.2.1=y:=⟨_,rfl⟩
  rw [if_pos h4,hzf]
  have hl:=J9 next 64 1 (B6 (before+Cw (next s true).1)) [(next s true).1] (next s true).2.2 (by rw [hq];simpa using h3) (SF _ (Pz h2'))
  rw [hq] at hl
  obtain ⟨c,k1,k2,k3⟩:=hl
  dsimp only
  refine ⟨q.2.1,k3,hzf.symm,h4,?_⟩
  rw [h4,k1]
  exact ⟨rfl,by simpa using h1,N0 k2⟩
 rw [if_neg h4] at h;cases h
theorem OC(before:Int)(s:σ):(DM next before s).2.1.length=64:=by
 have hz:(List.replicate 64 (0:Int)).length=64:=List.length_replicate
 have key:∀q:Int×List Int×List CF×σ,((if q.1≠0 then (q.1,List.replicate 64 0,[],q.2.2.2) else if BV before q.2.1=q.2.2.1 then (0,CX q.2.1,q.2.2.1,q.2.2.2) else (4,List.replicate 64 0,[],q.2.2.2)):Int×List Int×List CF×σ).2.1.length=64:=fun q=>by
  by_cases h1:q.1≠0
  ·rw [if_pos h1];exact hz
  rw [if_neg h1]
  by_cases h2:BV before q.2.1=q.2.2.1
  ·rw [if_pos h2]
   have h3:=Dy q.2.1
   generalize CX q.2.1=y at h3⊢
   exact h3
  rw [if_neg h2];exact hz
 unfold DM
 by_cases h1:(next s true).2.1≠0
 ·rw [if_pos h1];exact hz
 rw [if_neg h1]
 by_cases h2:Bk before (next s true).1=false
 ·rw [if_pos h2];exact hz
 rw [if_neg h2];exact key _
def D5:Nat→Int→σ→Int×List Int×σ
 | 0,_,s=>(0,[],s)
 | f+1,p,s=>if (DM next p s).1≠0 then ((DM next p s).1,[],(DM next p s).2.2.2) else
   ((D5 f (AK (DM next p s).2.1 0) (DM next p s).2.2.2).1,(DM next p s).2.1++(D5 f (AK (DM next p s).2.1 0) (DM next p s).2.2.2).2.1,(D5 f (AK (DM next p s).2.1 0) (DM next p s).2.2.2).2.2)
theorem T4(before:Int)(s:σ)(h:(DM next before s).1=0):Bd (DM next before s).2.1:=by
 obtain ⟨z,h1,h2,_⟩:=Qx next before s h
 rw [h2]
 exact ⟨Dy z,fun i hi=>Kw z h1.2 i hi⟩
theorem Qj:∀(f:Nat)(p:Int)(s:σ),(D5 next f p s).1=0→(D5 next f p s).2.1.length=f*64
 | 0,p,s,_=>by simp [D5]
 | f+1,p,s,h=>by
   rw [D5] at h⊢
   by_cases h1:(DM next p s).1≠0
   ·rw [if_pos h1] at h;exact absurd h h1
   rw [if_neg h1] at h⊢
   dsimp only at h⊢
   rw [List.length_append,OC,Qj f _ _ h];omega
end
def EV(L1 L2:List (Int×Nat×Nat))(T:List (CF×Bool)):Prop:=∀x∈T,(symW (if x.2 then L1 else L2) x.1.1).isSome=true
theorem G8(L1 L2:List (Int×Nat×Nat)):∀(T:List (CF×Bool))(bs:List Bool),EV L1 L2 T→DX (BR L1 L2) T bs=(0,bs++T.flatMap (Ba L1 L2))
 | [],bs,_=>by simp [DX]
 | x::T,bs,h=>by
   have h1:BR L1 L2 bs x.1 x.2=(0,bs++Ba L1 L2 x):=by unfold BR;rw [if_pos (h x (by simp))]
   rw [DX,h1,if_pos rfl,G8 L1 L2 T _ (fun y hy=>h y (by simp [hy])),List.flatMap_cons,List.append_assoc]
theorem MM(L1 L2:List (Int×Nat×Nat)):∀(T:List (CF×Bool))(bs:List Bool),¬EV L1 L2 T→(DX (BR L1 L2) T bs).1=5
 | [],bs,h=>absurd (fun x hx=>(by cases hx)) h
 | x::T,bs,h=>by
   rw [DX]
   by_cases hx:(symW (if x.2 then L1 else L2) x.1.1).isSome=true
   ·have h1:BR L1 L2 bs x.1 x.2=(0,bs++Ba L1 L2 x):=by unfold BR;rw [if_pos hx]
    rw [h1,if_pos rfl]
    exact MM L1 L2 T _ fun hw=>h fun y hy=>by
     rcases List.mem_cons.1 hy with rfl|hy
     ·exact hx
     exact hw y hy
   have h1:BR L1 L2 bs x.1 x.2=(5,bs):=by unfold BR;rw [if_neg hx]
   rw [h1];rfl
theorem MG(l:List Nat)(i m:Nat)(h:i+m≤8*l.length):(BK l).drop i=A2 m (BF l i m)++(BK l).drop (i+m):=by
 have h1:(((BK l).drop i).take m).length=m:=by rw [List.length_take,List.length_drop,CO];omega
 have h2:=Ey (((BK l).drop i).take m)
 rw [h1] at h2
 unfold BF
 rw [h2,←List.drop_drop,List.take_append_drop]
theorem UW(l:List Nat)(i m v:Nat)(rest:List Bool)(h:(BK l).drop i=A2 m v++rest)(hv:v<2^m):BF l i m=v∧(BK l).drop (i+m)=rest∧(i≤8*l.length→i+m≤8*l.length):=by
 refine ⟨?_,?_,fun hi=>?_⟩
 ·unfold BF
  rw [h,List.take_left' (At m v),DZ m v hv]
 ·rw [←List.drop_drop,h,List.drop_left' (At m v)]
 have:=congrArg List.length h
 rw [List.length_drop,CO,List.length_append,At] at this
 omega
def XI(x:CF×Bool):Prop:=x.1.2.1=CB x.2 x.1.1∧(0≤x.1.2.1∧x.1.2.1≤12)∧(x.2=false→x.1.2.1≤11)∧0≤x.1.2.2∧x.1.2.2<2^x.1.2.1.toNat
section
variable{L1 L2:List (Int×Nat×Nat)}(h1:Ci L1)(h2:Ci L2)(l:List Nat)
include h1 h2
theorem Xp(i:Nat)(x:CF×Bool)(s':Nat)(ht:(Ar L1 L2 l i x.2).1=x.1)(he:(Ar L1 L2 l i x.2).2.1=0)(hs:(Ar L1 L2 l i x.2).2.2=s'):
 s'≤8*l.length∧(symW (if x.2 then L1 else L2) x.1.1).isSome=true∧(BK l).drop i=Ba L1 L2 x++(BK l).drop s':=by
 obtain ⟨t,b⟩:=x
 dsimp only at ht he hs⊢
 have hG:Ci (if b then L1 else L2):=by cases b<;>assumption
 unfold Ba
 dsimp only
 unfold Ar at ht he hs
 generalize (if b then L1 else L2)=L at*
 by_cases hg:(GH L l i 16 0).2.1≠0
 ·rw [if_pos hg] at he;exact absurd he hg
 rw [if_neg hg] at ht he hs
 obtain ⟨m,hm1,hm2,hm3,hm4,hm5⟩:=YU (L:=L) l i 16 0 (by simpa using hg)
 obtain ⟨⟨sy,ge,gi⟩,hG0⟩:∃y,GH L l i 16 0=y:=⟨_,rfl⟩
 rw [hG0] at ht he hs hm3 hm5
 dsimp only at ht he hs hm3 hm5
 by_cases hw:12<CB b sy∨(b=false∧11<CB b sy)
 ·rw [if_pos hw] at he;cases he
 rw [if_neg hw] at ht he hs
 by_cases hsh:8*l.length<gi+(CB b sy).toNat
 ·rw [if_pos hsh] at he;cases he
 rw [if_neg hsh] at ht he hs
 dsimp only at ht he hs
 subst ht;subst hs
 dsimp only
 refine ⟨by omega,by rw [hG.symW hm5];rfl,?_⟩
 rw [Yl hG hm5,MG l i m hm4,List.append_assoc,←hm3,Int.toNat_natCast,←MG l gi _ (by omega)]
theorem Xo(i:Nat)(x:CF×Bool)(rest:List Bool)(hi:i≤8*l.length)(hx:XI x)(hw:(symW (if x.2 then L1 else L2) x.1.1).isSome=true)(hb:(BK l).drop i=Ba L1 L2 x++rest):
 Ar L1 L2 l i x.2=(x.1,0,i+(Ba L1 L2 x).length)∧(BK l).drop (i+(Ba L1 L2 x).length)=rest∧i+(Ba L1 L2 x).length≤8*l.length:=by
 obtain ⟨⟨t0,t1,t2⟩,b⟩:=x
 obtain ⟨k1,k2,k3,k4,k5⟩:=hx
 dsimp only at k1 k2 k3 k4 k5 hw
 have hG:Ci (if b then L1 else L2):=by cases b<;>assumption
 unfold Ba at hb⊢
 dsimp only at hb⊢
 unfold Ar
 generalize (if b then L1 else L2)=L at*
 obtain ⟨⟨m,cd⟩,hy⟩:=Option.isSome_iff_exists.1 hw
 have hm:(t0,m,cd)∈L:=Eo hy
 have hlong:=hG.long _ hm
 dsimp only at hlong
 have hwb:wb L t0=A2 m cd:=Yl hG hm
 obtain ⟨k,rfl⟩:∃k:Nat,t1=(k:Int):=⟨t1.toNat,by omega⟩
 obtain ⟨v,rfl⟩:∃v:Nat,t2=(v:Int):=⟨t2.toNat,by omega⟩
 rw [Int.toNat_natCast] at k5
 have hv:v<2^k:=by exact_mod_cast k5
 rw [hwb,Int.toNat_natCast,Int.toNat_natCast,List.append_assoc] at hb
 obtain ⟨n1,n2,n3⟩:=UW l i m cd _ hb (by omega)
 obtain ⟨n4,n5,n6⟩:=UW l (i+m) k v _ n2 hv
 have hgt:=W8 hG l i (t0,m,cd) hm (n3 hi) n1 16 0 (by omega) (by show 0<m;omega)
 dsimp only at hgt
 rw [hgt]
 dsimp only
 have hno:¬(12<(k:Int)∨(b=false∧11<(k:Int))):=by
  rintro (h|⟨h,h'⟩)
  ·omega
  have:=k3 h;omega
 rw [if_neg (by simp),←k1,if_neg hno,Int.toNat_natCast,if_neg (by have:=n6 (n3 hi);omega),n4,hwb,Int.toNat_natCast,List.length_append,At,At,←Nat.add_assoc]
 exact ⟨rfl,n5,n6 (n3 hi)⟩
theorem Nz:∀(T:List (CF×Bool))(i i':Nat),O6 (Ar L1 L2 l) T i i'→i≤8*l.length→i'≤8*l.length∧EV L1 L2 T∧(BK l).drop i=T.flatMap (Ba L1 L2)++(BK l).drop i'
 | [],i,i',h,hi=>by rw [show i=i' from h] at hi⊢;exact ⟨hi,fun x hx=>(by cases hx),by simp⟩
 | x::T,i,i',h,hi=>by
   obtain ⟨k1,k2,k3⟩:=Xp h1 h2 l i x _ h.1 h.2.1 rfl
   obtain ⟨m1,m2,m3⟩:=Nz T _ i' h.2.2 k1
   refine ⟨m1,fun y hy=>?_,by rw [k3,m3,List.flatMap_cons,List.append_assoc]⟩
   rcases List.mem_cons.1 hy with rfl|hy
   ·exact k2
   exact m2 y hy
theorem Ny:∀(T:List (CF×Bool))(i:Nat)(rest:List Bool),i≤8*l.length→(∀x∈T,XI x)→EV L1 L2 T→(BK l).drop i=T.flatMap (Ba L1 L2)++rest→
 O6 (Ar L1 L2 l) T i (i+(T.flatMap (Ba L1 L2)).length)∧(BK l).drop (i+(T.flatMap (Ba L1 L2)).length)=rest∧i+(T.flatMap (Ba L1 L2)).length≤8*l.length
 | [],i,rest,hi,_,_,hb=>by
   simp only [List.flatMap_nil,List.nil_append,List.length_nil,Nat.add_zero] at hb⊢
   exact ⟨rfl,hb,hi⟩
 | x::T,i,rest,hi,hx,hw,hb=>by
   rw [List.flatMap_cons,List.append_assoc] at hb
   obtain ⟨k1,k2,k3⟩:=Xo h1 h2 l i x _ hi (hx x (by simp)) (hw x (by simp)) hb
   obtain ⟨m1,m2,m3⟩:=Ny T _ rest k3 (fun y hy=>hx y (by simp [hy])) (fun y hy=>hw y (by simp [hy])) k2
   rw [List.flatMap_cons,List.length_append,←Nat.add_assoc]
   exact ⟨⟨by rw [k1],by rw [k1],by rw [k1];exact m1⟩,m2,m3⟩
end
def TK:Int→List Int→Nat→List (CF×Bool)
 | _,_,0=>[]
 | p,l,f+1=>Ej (FP p (Bm l 64 0))++TK (AK (Bm l 64 0) 0) (l.drop 64) f
theorem Fk(l:List Int)(k j:Nat):Bm (l.drop (k*64)) 64 j=Bm l 64 (k+j):=by
 unfold Bm
 rw [List.drop_drop,←Nat.add_mul]
theorem Yf(l:List Int):∀(f k:Nat),DH l k f=TK (TI l k) (l.drop (k*64)) f
 | 0,k=>rfl
 | f+1,k=>by
   rw [DH,TK,Yf l f (k+1),Fk,Nb,List.drop_drop,show k*64+64=(k+1)*64 by omega]
   rfl
theorem M0:∀(l:List Int)(r:Nat),(∀x∈l,-2047≤x∧x≤2047)→∀t∈Gq r l,XI (t,false)
 | [],r,_,t,ht=>by
   unfold Gq at ht
   split at ht
   ·simp at ht;subst ht;unfold XI;decide
   simp at ht
 | n::l,r,h,t,ht=>by
   unfold Gq at ht
   split at ht
   ·exact M0 l (r+1) (fun x hx=>h x (by simp [hx])) t ht
   rcases List.mem_append.1 ht with ht|ht
   ·rw [List.eq_of_mem_replicate ht];unfold XI;decide
   rcases List.mem_cons.1 ht with rfl|ht
   ·have h1:=RR n (by have:=h n (by simp);omega)
    have h2:=Fi n
    unfold XI GU CB
    dsimp only
    rw [Int.toNat_natCast]
    refine ⟨?_,by omega,fun _=>by omega,h2.2.1,by exact_mod_cast h2.2.2⟩
    rw [if_neg (by decide)]
    omega
   exact M0 l 0 (fun x hx=>h x (by simp [hx])) t ht
theorem UQ{p:Int}{z:List Int}(hp: -2047≤p∧p≤2047)(hz:Bd z):∀x∈Ej (BV p z),XI x:=by
 intro x hx
 unfold BV Ej at hx
 rcases List.mem_cons.1 hx with rfl|hx
 ·have h0:=hz.2 0 (by omega)
  have h1:=RQ (AK z 0-p) (by omega)
  have h2:=Fi (AK z 0-p)
  unfold XI GU CB
  dsimp only
  rw [Int.toNat_natCast]
  refine ⟨?_,by omega,fun h=>(by cases h),h2.2.1,by exact_mod_cast h2.2.2⟩
  rw [if_pos rfl]
  omega
 obtain ⟨t,ht,rfl⟩:=List.mem_map.1 hx
 refine M0 _ 0 (fun y hy=>?_) t ht
 obtain ⟨i,hi,rfl⟩:=List.mem_iff_getElem.1 (List.mem_of_mem_drop hy)
 have:=hz.2 i (by rw [←hz.1];exact hi)
 simpa [AK,List.getD,hi] using this
theorem Qb{x:List Int}(hx:x.length=64)(h:Dd x=true):Bd (FH x)∧Bd x:=by
 have h1:=(BL _ _ _).1 h
 rw [hx] at h1
 exact ⟨⟨Cu x,fun i hi=>by rw [GG _ i hi];exact h1 _ (Ky i hi)⟩,hx,h1⟩
theorem Zo{x:List Int}(h:Bd x):Dd x=true:=(BL _ _ _).2 (by rw [h.1];exact h.2)
theorem M8{p:Int}{x:List Int}(hp: -2047≤p∧p≤2047)(h:Bd x):FP p x=BV p (FH x):=by
 unfold FP
 rw [if_pos (Xr h.1 hp h.2)]
theorem RS:∀(f:Nat)(p:Int)(l:List Int),(-2047≤p∧p≤2047)→l.length=f*64→(∀k,k<f→Dd (Bm l 64 k)=true)→∀x∈TK p l f,XI x
 | 0,p,l,_,_,_,x,hx=>by cases hx
 | f+1,p,l,hp,hl,hb,x,hx=>by
   have hs:(Bm l 64 0).length=64:=CM l 64 0 (f+1) hl (by omega)
   obtain ⟨b1,b2⟩:=Qb hs (hb 0 (by omega))
   rw [TK,M8 hp b2] at hx
   rcases List.mem_append.1 hx with hx|hx
   ·exact UQ hp b1 x hx
   refine RS f _ (l.drop 64) (b2.2 0 (by omega)) (by rw [List.length_drop];omega) (fun k hk=>?_) x hx
   have:=Fk l 1 k
   rw [Nat.one_mul] at this
   rw [this]
   exact hb _ (by omega)
theorem Lc{σ:Type}{next:σ→Bool→CF×Int×σ}:∀{A B:List (CF×Bool)} {s s2:σ},O6 next (A++B) s s2→∃s1,O6 next A s s1∧O6 next B s1 s2
 | [],B,s,s2,h=>⟨s,rfl,h⟩
 | x::A,B,s,s2,h=>by
   obtain ⟨s1,k1,k2⟩:=Lc h.2.2
   exact ⟨s1,⟨h.1,h.2.1,k1⟩,k2⟩
theorem J0{σ:Type}{next:σ→Bool→CF×Int×σ}:∀{A:List CF} {s s':σ},O6 next (A.map fun x=>(x,false)) s s'→Ed next A s s'
 | [],s,s',h=>h
 | t::A,s,s',h=>⟨h.1,h.2.1,J0 h.2.2⟩
section
variable{σ:Type}(next:σ→Bool→CF×Int×σ)
theorem Qi:∀(f:Nat)(p:Int)(s:σ),(D5 next f p s).1=0→(-2047≤p∧p≤2047)→O6 next (TK p (D5 next f p s).2.1 f) s (D5 next f p s).2.2∧∀k,k<f→Dd (Bm (D5 next f p s).2.1 64 k)=true
 | 0,p,s,_,_=>⟨rfl,fun k hk=>by omega⟩
 | f+1,p,s,h,hp=>by
   rw [D5] at h⊢
   by_cases h1:(DM next p s).1≠0
   ·rw [if_pos h1] at h;exact absurd h h1
   rw [if_neg h1] at h⊢
   dsimp only at h⊢
   obtain ⟨z,hz,e1,e2,e3⟩:=Qx next p s (by simpa using h1)
   have hb:=T4 next p s (by simpa using h1)
   obtain ⟨F,hF⟩:∃F,DM next p s=F:=⟨_,rfl⟩
   rw [hF] at h h1 e1 e2 e3 hb⊢
   obtain ⟨E,b0,all,s1⟩:=F
   dsimp only at h h1 e1 e2 e3 hb⊢
   obtain ⟨k1,k2⟩:=Qi f (AK b0 0) s1 h (hb.2 0 (by omega))
   have hs0:Bm (b0++(D5 next f (AK b0 0) s1).2.1) 64 0=b0:=by
    unfold Bm
    rw [Nat.zero_mul,List.drop_zero,List.take_left' hb.1]
   have hz2:FH b0=z:=by rw [e1];exact Il z hz.1
   refine ⟨?_,fun k hk=>?_⟩
   ·rw [TK,hs0,List.drop_left' hb.1,M8 hp hb,hz2]
    exact e3.app k1
   cases k with
   | zero=>rw [hs0];exact Zo hb
   | succ k=>
     have:=Fk (b0++(D5 next f (AK b0 0) s1).2.1) 1 k
     rw [Nat.one_mul,List.drop_left' hb.1] at this
     rw [show k+1=1+k by omega,←this]
     exact k2 k (by omega)
theorem Tp:∀(f:Nat)(p:Int)(l:List Int)(s s':σ),l.length=f*64→(-2047≤p∧p≤2047)→(∀k,k<f→Dd (Bm l 64 k)=true)→O6 next (TK p l f) s s'→D5 next f p s=(0,l,s')
 | 0,p,l,s,s',hl,_,_,h=>by
   have:l=[]:=List.eq_nil_of_length_eq_zero (by omega)
   rw [D5,this,show s=s' from h]
 | f+1,p,l,s,s',hl,hp,hb,h=>by
   have hs:(Bm l 64 0).length=64:=CM l 64 0 (f+1) hl (by omega)
   obtain ⟨b1,b2⟩:=Qb hs (hb 0 (by omega))
   rw [TK,M8 hp b2] at h
   obtain ⟨s1,m1,m2⟩:=Lc h
   have hfrm:DM next p s=(0,Bm l 64 0,BV p (FH (Bm l 64 0)),s1):=by
    have:=T5 (next:=next) p (FH (Bm l 64 0)) (Cu _) hp b1.2 s s1 m1.1 m1.2.1 (J0 m1.2.2)
    rw [TC _ hs] at this
    exact this
   have ih:=Tp f (AK (Bm l 64 0) 0) (l.drop 64) s1 s' (by rw [List.length_drop];omega) (b2.2 0 (by omega)) (fun k hk=>by
    have:=Fk l 1 k
    rw [Nat.one_mul] at this
    rw [this]
    exact hb _ (by omega)) m2
   rw [D5,hfrm]
   dsimp only
   rw [if_neg (by simp),ih]
   dsimp only
   rw [show Bm l 64 0=l.take 64 by unfold Bm;simp,List.take_append_drop]
end
def PR(L1 L2:List (Int×Nat×Nat))(l:List Nat)(n:Nat):Int×List Int:=
 if (D5 (Ar L1 L2 l) n 0 0).1≠0 then ((D5 (Ar L1 L2 l) n 0 0).1,[]) else
 if 8*l.length-(D5 (Ar L1 L2 l) n 0 0).2.2≤7∧BF l (D5 (Ar L1 L2 l) n 0 0).2.2 (8*l.length-(D5 (Ar L1 L2 l) n 0 0).2.2)=2^(8*l.length-(D5 (Ar L1 L2 l) n 0 0).2.2)-1 then (0,(D5 (Ar L1 L2 l) n 0 0).2.1) else (4,[])
theorem Kc(l:List Int)(n:Nat):DH l 0 n=TK 0 l n:=by rw [Yf,Nat.zero_mul,List.drop_zero];rfl
theorem QI{a b:List Nat}(ha:∀x∈a,x<256)(hb:∀x∈b,x<256)(h:BK a=BK b):a=b:=by
 have hl:a.length=b.length:=by have:=congrArg List.length h;rw [CO,CO] at this;omega
 rw [←Hm a ha,←Hm b hb,h,hl]
theorem OR(m:Nat):A2 m (2^m-1)=List.replicate m true:=by
 refine XH _ _ (by rw [At,List.length_replicate]) ?_
 rw [DZ _ _ (by have:=Nat.two_pow_pos m;omega)]
 induction m with
 | zero=>rfl
 | succ m ih=>
   rw [List.replicate_succ',Hl,←ih,Nat.pow_succ]
   have:=Nat.two_pow_pos m
   simp
   omega
theorem To{L1 L2:List (Int×Nat×Nat)}(h1:Ci L1)(h2:Ci L2){l:List Int}{n:Nat}(hl:l.length=n*64)(hb:A9 l n=true)(hw:EV L1 L2 (DH l 0 n)):
 PR L1 L2 (bytesOf ((DH l 0 n).flatMap (Ba L1 L2))) n=(0,l):=by
 have hbk:∀k,k<n→Dd (Bm l 64 k)=true:=fun k hk=>DP hb hk
 rw [Kc] at hw⊢
 obtain ⟨bits,hbits⟩:∃b,(TK 0 l n).flatMap (Ba L1 L2)=b:=⟨_,rfl⟩
 have hu:=Fp bits
 obtain ⟨k1,k2,k3⟩:=Ny h1 h2 (bytesOf bits) (TK 0 l n) 0 (Be bits) (by omega) (RS n 0 l (by omega) hl hbk) hw (by rw [List.drop_zero,hu,hbits])
 rw [hbits,Nat.zero_add] at k1 k2 k3
 have hd:=Tp (Ar L1 L2 (bytesOf bits)) n 0 l 0 bits.length hl (by omega) hbk k1
 rw [hbits]
 unfold PR
 rw [hd]
 dsimp only
 have hlen:8*(bytesOf bits).length=bits.length+(Be bits).length:=by
  have:=congrArg List.length hu
  rw [CO,List.length_append] at this
  exact this
 have hpl:(Be bits).length≤7:=by unfold Be;rw [List.length_replicate];omega
 have hn:BF (bytesOf bits) bits.length (Be bits).length=2^(Be bits).length-1:=by
  unfold BF
  rw [k2,List.take_length,←DZ (Be bits).length (2^(Be bits).length-1) (by have:=Nat.two_pow_pos (Be bits).length;omega),OR]
  congr 1
  unfold Be
  rw [List.length_replicate]
 rw [if_neg (by simp),hlen,Nat.add_sub_cancel_left,if_pos ⟨hpl,hn⟩]
theorem R7{L1 L2:List (Int×Nat×Nat)}(h1:Ci L1)(h2:Ci L2){by_:List Nat}{n:Nat}(hby:∀x∈by_,x<256)(h:(PR L1 L2 by_ n).1=0):
 (PR L1 L2 by_ n).2.length=n*64∧A9 (PR L1 L2 by_ n).2 n=true∧EV L1 L2 (DH (PR L1 L2 by_ n).2 0 n)∧bytesOf ((DH (PR L1 L2 by_ n).2 0 n).flatMap (Ba L1 L2))=by_:=by
 unfold PR at h⊢
 by_cases he:(D5 (Ar L1 L2 by_) n 0 0).1≠0
 ·rw [if_pos he] at h;exact absurd h he
 rw [if_neg he] at h⊢
 have he0:(D5 (Ar L1 L2 by_) n 0 0).1=0:=by simpa using he
 obtain ⟨k1,k2⟩:=Qi (Ar L1 L2 by_) n 0 0 he0 (by omega)
 have hlen:=Qj (Ar L1 L2 by_) n 0 0 he0
 obtain ⟨⟨E,B,i⟩,hd⟩:∃d,D5 (Ar L1 L2 by_) n 0 0=d:=⟨_,rfl⟩
 rw [hd] at h k1 k2 hlen⊢
 dsimp only at h k1 k2 hlen⊢
 by_cases hc:8*by_.length-i≤7∧BF by_ i (8*by_.length-i)=2^(8*by_.length-i)-1
 ·rw [if_pos hc]
  dsimp only
  obtain ⟨m1,m2,m3⟩:=Nz h1 h2 by_ _ 0 i k1 (by omega)
  refine ⟨hlen,?_,by rw [Kc];exact m2,?_⟩
  ·unfold A9
   rw [List.all_eq_true]
   exact fun k hk=>k2 k (List.mem_range.1 hk)
  rw [Kc]
  refine QI (D4 _) hby ?_
  rw [Fp,←List.drop_zero (l:=BK by_),m3]
  congr 1
  have h3:=MG by_ i (8*by_.length-i) (by omega)
  rw [hc.2,OR,List.drop_of_length_le (i:=i+(8*by_.length-i)) (by rw [CO];omega),List.append_nil] at h3
  rw [h3]
  unfold Be
  congr 1
  have h4:=congrArg List.length m3
  rw [List.drop_zero,CO,List.length_append,List.length_drop,CO] at h4
  omega
 rw [if_neg hc] at h;cases h
structure DL(p:Prop):Prop where
 out:p
theorem V.mkIf{P:Program}{t ty:TypeId}{x:Operand}{a:Act}{v:Value}(hx:a.eval x=v)(hr:∀w:World,(Instr.makeInterface t v).run P w= .ok (.iface t v) w):DK P (.makeInterface t x) ty a (.iface t v):=fun d pos af g w=>by
 simp only [execOp,hx,Sem.run_bind,hr,Result.andThen_ok,Sem.run_pure]
def Uw(W:World)(gc gr:Nat)(L1 L2:List (Int×Nat×Nat))(ad:Option Addr)(n c:Nat)(l:List Nat)(hL1:Ci L1)(hL2:Ci L2)(hl:∀x∈l,x<256)(hn:n≤1000000000000000000):bC W Nat where
 next:=Ar L1 L2 l
 res:=LS gc gr L1 L2 ad n c l
 tid:=140
 ptr:= .agg #[.pointer (some ⟨gc,0,none⟩), .pointer (some ⟨gr,0,none⟩)]
 f:=175
 inv:=fun b w=>by kernel_rfl
 call:=fun w rs rs' s b t0 t1 t2 er s' hS hp h=>P8 W w rs rs' gc gr L1 L2 ad n c l s b t0 t1 t2 er s' hL1 hL2 hl hn hS hp h
theorem I5{W:World}(w0:World)(rs rs':List Au)(gc gr:Nat)(L1 L2:List (Int×Nat×Nat))(ad:Option Addr)(n c:Nat)(l:List Nat)(hL1:Ci L1)(hL2:Ci L2)(hl:∀x∈l,x<256)(hn:n≤1000000000000000000)(i:Nat)(p:Int)(hb: -2047≤p∧p≤2047)(hS:St W w0 rs)(hp:AT (LS gc gr L1 L2 ad n c l i) rs rs')(E:Int)(bl:List Int)(all:List CF)(i':Nat)(hF:DM (Ar L1 L2 l) p i=(E,bl,all,i')):
 Calls Tryz.prog 88 #[.int .i64 p, .iface 140 (.agg #[.pointer (some ⟨gc,0,none⟩), .pointer (some ⟨gr,0,none⟩)])] w0 fun e w=>∃ad2 c2 m,e= .returned (.tuple #[.agg (iv bl), .slice ad2 m c2, .int .i64 E])∧St W w (LS gc gr L1 L2 ad n c l i'::rs'):=by
 refine (T6 (Uw W gc gr L1 L2 ad n c l hL1 hL2 hl hn) w0 rs rs' i p hb hS hp).mono ?_
 rintro e w ⟨ad2,c2,rfl,hS2⟩
 have hq:DM (Uw W gc gr L1 L2 ad n c l hL1 hL2 hl hn).next p i=(E,bl,all,i'):=hF
 rw [hq] at hS2⊢
 exact ⟨ad2,c2,_,rfl,hS2.drop⟩
theorem VE{l:List Int}(h:∀x∈l,0≤x∧x<256):∀x∈Db l,0≤x∧x<256:=by
 intro x hx
 unfold Db Gi at hx
 obtain ⟨y,hy,hx⟩:=List.mem_flatMap.1 hx
 split at hx
 ·simp at hx
  rcases hx with rfl|rfl<;>omega
 simp at hx
 subst hx
 exact h x hy
def FS(w0:World)(E:Int)(B:List Int)(e:Ending)(w:World):Prop:=
 ∃ao c m,B.length=m*64∧e= .returned (.tuple #[.slice ao m c, .int .i64 E])∧St w0 w [own 26 64 ao m c (B.map (Value.int .i64))]
theorem EP{w0 w:World}{E:Int}{B:List Int}(E':Int)(h:E=E')(hB:B=[])(hE:Al w0 w):FS w0 E B (.returned (.tuple #[.slice none 0 0, .int .i64 E'])) w:=by
 subst h;subst hB
 exact ⟨none,0,0,rfl,rfl,(St.of_ext hE).nil _ _⟩
theorem Z1{w0 w:World}{gc gr n c:Nat}{L1 L2:List (Int×Nat×Nat)}{ad:Option Addr}{l:List Nat}{rs:List Au}{rs':List Au}(h:St w0 w rs)(s:NV (YQ gc L1 L2::rd gr ad n c 0::own 5 1 ad n c (bv l)::rs') rs):St w0 w (LS gc gr L1 L2 ad n c l 0::rs'):=by
 refine St.close ⟨(),by omega⟩ ?_
 have h2:=h.sub s
 have h3:St w0 w (RE gr ad n c 0 l::YQ gc L1 L2::rs'):=St.close () (by dsimp only [List.cons_append,List.nil_append];exact h2.sub AV)
 dsimp only [List.cons_append,List.nil_append]
 exact h3.sub AV
theorem LQ(w0:World)(C1 C2 S1 S2:List Int)(a1 a2:Option Addr)(n1 n2 k1 k2:Nat)(hC1:Ap C1 16)(hC2:Ap C2 16)(hs1:Sl w0 1 (.slice a1 n1 k1) n1 (S1.map (Value.int .i64)))(hs2:Sl w0 1 (.slice a2 n2 k2) n2 (S2.map (Value.int .i64)))(hn1:n1≤9223372036854775807)(hn2:n2≤9223372036854775807)(ad:Option Addr)(nb c:Nat)(l:List Nat)(n:Nat)
 (hb:nb≤1000000000) (hv:Sl w0 1 (.slice ad nb c) nb ((Db (FU l)).map (Value.int .u8))) (hnil:ad=none→c=0) (hl:∀x∈l,x<256) (hml:∃m,w0.cell? ⟨0,0,none⟩=some (.int .i64 m)) (hn:n≤400) (hT1:BA C1 S1=0) (hT2:BA C2 S2=0) (R:Int×List Int) (hR:PR (Bu C1 S1) (Bu C2 S2) l n=R):
 Calls Tryz.prog 51 #[.agg (AI [.ints C1, .val (.slice a1 n1 k1), .ints C2, .val (.slice a2 n2 k2)]).toArray, .slice ad nb c, .int .i64 n] w0 (FS w0 R.1 R.2):=by
 have hS:=St.start w0
 have HT1:=AD hT1
 have HT2:=AD hT2
 have HG1:=AD (Bp hT1)
 have HG2:=AD (Bp hT2)
 obtain ⟨L1,hL1⟩:∃L,Bu C1 S1=L:=⟨_,rfl⟩
 obtain ⟨L2,hL2⟩:∃L,Bu C2 S2=L:=⟨_,rfl⟩
 rw [hL1] at HG1
 rw [hL2] at HG2
 rw [hL1,hL2] at hR
 have HL1:=AD hL1
 have HL2:=AD hL2
 have HLt:=AD hl
 have HR:DL (PR L1 L2 l n=R):=⟨hR⟩
 obtain ⟨nl,hnl⟩:∃nl,l.length=nl:=⟨_,rfl⟩
 have hnlb:nl≤1000000000:=by
  have h1:=hv.1
  rw [List.length_map,Mu,FU,List.length_map] at h1
  omega
 have HNL:=AD hnl
 have hbyl:=AD (show (FU l).length=nl by unfold FU;rw [List.length_map];exact hnl)
 have HBI:=AD (show ∀x∈Db (FU l),0≤x∧x<256 from fun x hx=>VE (fun y hy=>by
  obtain ⟨z,hz,rfl⟩:=List.mem_map.1 hy
  have:=hl z hz
  omega) x hx)
 have HBV:=AD (Tg l)
 have HPL:=AD (Ia w0 ad nb c (Db (FU l)) hv hnil HBI.out hb hml)
 clear hl hT1 hT2 hL1 hL2 hR hnl
 go_enter Tryz.func51,Tryz.ntmps51
 repeat' (first
  | (refine AS 21 ?_);refine AN (f:=85) Tryz.call85 AA ?_;refine ⟨_,(Hf _ C1 C2 S1 S2 a1 a2 n1 n2 k1 k2 hC1 hC2 (hs1.ext hS.1) (hs2.ext hS.1) hn1 hn2 HT1.out HT2.out),?_⟩;rintro e w ⟨gc,rfl,hS2⟩;rw [HL1.out,HL2.out] at hS2;replace hS:=hS.call1 hS2;clear hS2;refine Ae ?_;go_step|refine X0 ?_|refine X6 ?_|refine X3 ?_|refine PG 3 ?_;clear hS;intro g3 w hS|refine QU ?_|refine AG ?_;go_step|fail)
 all_goals (try exact AW)
 repeat' (first
  | refine X1 ?_|refine Gz ?_|refine EN 28 ?_ ?_<;>intro hB<;>(try exact AW)<;>go_step|refine Gv ?_|refine AG ?_;go_step|fail)
 all_goals (try exact AW)
 repeat' (first
  | (refine AS 35 ?_);refine AN (f:=86) Tryz.call86 AA ?_;refine ⟨_,(Ia w ad nb c (Db (FU l)) (hv.ext hS.1) hnil HBI.out hb (by obtain ⟨m,hm⟩:=hml;exact ⟨m,hS.1.cell hm⟩)),?_⟩;rintro e w ⟨hq,_⟩;obtain ⟨ap,cp,rfl,hS2⟩:=hq _ rfl;clear hq;rw [hbyl.out,←HBV.out] at hS2;rw [hbyl.out];replace hS:=hS.call1 hS2;clear hS2;refine Ae ?_;go_step|refine X0 ?_|refine X6 ?_|refine X3 ?_|refine AG ?_;go_step|fail)
 all_goals (try exact AW)
 repeat' (first
  | (refine AS 43 ?_);refine AN (f:=87) Tryz.call87 AA ?_;refine ⟨_,(LH w ap nl cp),?_⟩;rintro e w ⟨gr,rfl,hS2⟩;replace hS:=hS.call1 hS2;clear hS2;refine Ae ?_;go_step|refine X0 ?_|(refine AS 44 ?_);(refine As AA (V.build (vs:=[(0,_),(1,_)]) rfl (Rn _ _)) ?_;go_step)|(refine AS 10 ?_);(refine Ag ?_;apply B3 (o:=⟨some 10,_,_,_,_,_⟩) hS 140 rfl (.agg #[.pointer none, .pointer none]) [.pointer none, .pointer none] (fun w=>Tryz.zeroValue140 w) rfl;clear hS;intro g10 w hS;refine AB ?_;go_step)|(with_reducible refine An _ (.store 140 _ _) ?_);(refine Ag ?_;apply CV hS 140 _ _ rfl _ rfl 2 (AP rfl) _ _;(case hp=>exact AJ);(case hy=>rfl);(case hn=>rfl);(case hn'=>rfl);(case hv=>rfl);(case hd=>exact rfl);clear hS;intro w hS)|refine AG ?_;go_step|fail)
 all_goals (try exact AW)
 replace hS:St w0 w [LS gc gr L1 L2 ap nl cp l 0,blk g10 [.pointer (some ⟨gc,0,none⟩), .pointer (some ⟨gr,0,none⟩)]]:=Z1 hS AV
 replace hS:=hS.nilk 26 64 .i64
 go_loopg [11,12,46] n (fun gk pv ov kv w=>∃(k i:Nat) (p:Int) (acc:List Int) (ao:Option Addr) (co:Nat),gk+k=n∧kv= .int .i64 k∧pv= .int .i64 p∧ov= .slice ao k co∧(-2047≤p∧p≤2047)∧DL (D5 (Ar L1 L2 l) n 0 0=((D5 (Ar L1 L2 l) (n-k) p i).1,acc++(D5 (Ar L1 L2 l) (n-k) p i).2.1,(D5 (Ar L1 L2 l) (n-k) p i).2.2))∧St w0 w [own 26 64 ao k co (acc.map (Value.int .i64)),LS gc gr L1 L2 ap nl cp l i,blk g10 [.pointer (some ⟨gc,0,none⟩), .pointer (some ⟨gr,0,none⟩)]])
 case atStart=>exact ⟨0,0,0,[],none,0,by omega,rfl,rfl,rfl,by omega,⟨rfl⟩,hS⟩
 case round=>
  clear hS HPL
  obtain ⟨k,i,p,acc,ao,co,hk,rfl,rfl,rfl,hpb,HV,hS⟩:=hrel
  by_cases hlt:k<n
  ·obtain ⟨⟨E,bl,all,i'⟩,hF⟩:∃F,DM (Ar L1 L2 l) p i=F:=⟨_,rfl⟩
   have hbl:Ap bl 64:=by have:=OC (Ar L1 L2 l) p i;rw [hF] at this;exact this
   have hd:D5 (Ar L1 L2 l) (n-k) p i=if E≠0 then (E,[],i') else ((D5 (Ar L1 L2 l) (n-(k+1)) (AK bl 0) i').1,bl++(D5 (Ar L1 L2 l) (n-(k+1)) (AK bl 0) i').2.1,(D5 (Ar L1 L2 l) (n-(k+1)) (AK bl 0) i').2.2):=by
    rw [show n-k=(n-(k+1))+1 by omega,D5,hF]
   have HF:DL (DM (Ar L1 L2 l) p i=(E,bl,all,i')):=⟨hF⟩
   have HBB:DL (E=0→ -2047≤AK bl 0∧AK bl 0≤2047):=⟨fun h=>by
    have:=T4 (Ar L1 L2 l) p i (by rw [hF];exact h)
    rw [hF] at this
    exact this.2 0 (by omega)⟩
   have HD:DL (D5 (Ar L1 L2 l) (n-k) p i=if E≠0 then (E,[],i') else ((D5 (Ar L1 L2 l) (n-(k+1)) (AK bl 0) i').1,bl++(D5 (Ar L1 L2 l) (n-(k+1)) (AK bl 0) i').2.1,(D5 (Ar L1 L2 l) (n-(k+1)) (AK bl 0) i').2.2)):=⟨hd⟩
   clear hF hd
   by_cases hE0:E=0
   case neg=>
    have he:(D5 (Ar L1 L2 l) n 0 0).1=E:=by rw [HV.out,HD.out,if_pos hE0]
    have hR1:DL (R=(E,[])):=⟨by rw [←HR.out];unfold PR;rw [if_pos (by rw [he];exact hE0),he]⟩
    clear he HD HV
    repeat' (first
     | refine bf 51 ?_|(refine AS 52 ?_);refine AN (f:=88) Tryz.call88 AA ?_;refine ⟨_,(I5 _ _ _ gc gr L1 L2 ap nl cp l HG1.out HG2.out HLt.out (by omega) i p hpb hS AJ E bl all i' HF.out),?_⟩;clear hS;rintro e w ⟨ad5,c5,m5,rfl,hS⟩;refine Ae ?_;go_step|refine X0 ?_|refine X2 ?_|refine X6 ?_|refine X3 ?_|refine bQ ?_|refine JL 13 ?_;clear hS;intro g13 w hS|refine Ew ?_;clear hS;intro w hS|refine AG ?_;go_step|fail)
    all_goals (try exact AW)
    refine AM (xs:=[_,_]) rfl (.cons (AC.tmp rfl) (.cons (AC.tmp rfl) (.nil))) (by simp) rfl ?_
    exact EP E (by rw [hR1.out]) (by rw [hR1.out]) hS.1
   have hbb:=HBB.out hE0
   have HV2:DL (D5 (Ar L1 L2 l) n 0 0=((D5 (Ar L1 L2 l) (n-(k+1)) (AK bl 0) i').1,(acc++bl)++(D5 (Ar L1 L2 l) (n-(k+1)) (AK bl 0) i').2.1,(D5 (Ar L1 L2 l) (n-(k+1)) (AK bl 0) i').2.2)):=⟨by rw [HV.out,HD.out,if_neg (by simpa using hE0),List.append_assoc]⟩
   clear HV HD HBB
   repeat' (first
    | refine bf 51 ?_|(refine AS 52 ?_);refine AN (f:=88) Tryz.call88 AA ?_;refine ⟨_,(I5 _ _ _ gc gr L1 L2 ap nl cp l HG1.out HG2.out HLt.out (by omega) i p hpb hS AJ E bl all i' HF.out),?_⟩;clear hS;rintro e w ⟨ad5,c5,m5,rfl,hS⟩;refine Ae ?_;go_step|refine X0 ?_|refine X2 ?_|refine X6 ?_|refine X3 ?_|refine bQ ?_|refine JL 13 ?_;clear hS;intro g13 w hS|refine Ew ?_;clear hS;intro w hS|refine AG ?_;go_step|fail)
   all_goals (try exact AW)
   repeat' (first
    | (refine AS 61 ?_);refine Ag ?_;refine AU (o:=⟨some 61,_,_,_,_,_⟩) hS 42 1 _ rfl 26 64 512 Zs _ _ (AX.agg rfl (by rw [List.length_map];exact hbl) AX.nil) rfl (by decide) (by decide) ?_;clear hS;intro g61 w hS;rw [List.append_nil] at hS;have hsl61:=hS.slBlk (n:=1) (s:=64) AT.head (by rw [List.length_map];exact hbl) (by decide);refine AB ?_;go_step|refine X0 ?_|refine ZU 63 ?_|refine X7 ?_|refine IK ?_|refine WD 62 ?_;clear hS;intro ad62 c62 w hS|refine ZG ?_|refine AG ?_;go_step|fail)
   go_roundg (gk-1)
   case measure=>omega
   case rel=>exact ⟨k+1,i',AK bl 0,acc++bl,_,_,by omega,by go_num,rfl,rfl,hbb,HV2,hS.sub AV⟩
  obtain rfl:k=n:=by omega
  have HV2:DL (D5 (Ar L1 L2 l) k 0 0=(0,acc,i)):=⟨by rw [HV.out,Nat.sub_self,D5];simp⟩
  clear HV
  repeat' (first
   | refine X2 ?_|refine AG ?_;go_step|fail)
  obtain ⟨⟨_,hi⟩,hS⟩:=(hS.pull (.tail .head)).open
  dsimp only [List.cons_append,List.nil_append] at hS
  have hcl:=((hS.pull (.tail .head)).open)
  obtain ⟨_,hcl⟩:=hcl
  dsimp only [List.cons_append,List.nil_append] at hcl
  have hcc:=(hcl.blk AT.head).1
  have c0:wr.cell? ⟨gr,0,none⟩=some (.slice ap nl cp):=by rw [hcc.cell];rfl
  have c1:wr.cell? ⟨gr,1,none⟩=some (.int .i64 (i:Nat)):=by rw [hcc.cell];rfl
  clear hcl hcc
  obtain ⟨Lf,hLf⟩:∃x,8*nl-i=x:=⟨_,rfl⟩
  have HLF:=AD hLf
  obtain ⟨N,hN⟩:∃N,BF l i (Lf%8)=N:=⟨_,rfl⟩
  have HN:=AD hN
  have HR2:DL (R=if Lf≤7∧BF l i Lf=2^Lf-1 then (0,acc) else (4,[])):=⟨by rw [←HR.out];unfold PR;rw [HV2.out];dsimp only;rw [if_neg (by simp),HNL.out,hLf]⟩
  have hal:=hS.ownLen (xs:=acc.map (Value.int .i64)) AJ
  rw [List.length_map] at hal
  have HL0:=AD (J7 wr gr nl cp i ap c0 c1 (by omega) hi)
  have HAL:=AD hal
  clear c0 c1 HV2 HR hN hal
  by_cases h7:7<Lf
  ·have hR4:DL (R=(4,[])):=⟨by rw [HR2.out,if_neg (by omega)]⟩
   clear HR2
   repeat' (first
    | (refine AS 68 ?_);refine AN (f:=89) Tryz.call89 AA ?_;refine ⟨_,(HL0.out),?_⟩;rintro e w ⟨rfl,hE⟩;rw [HLF.out];replace hS:=hS.ext hE;clear hE;refine Ae ?_;go_step|refine ZM 73 ?_|(refine AS 74 ?_);refine AN (f:=90) Tryz.call90 AA ?_;refine ⟨_,(DY w0 _ _ _ gr nl cp i (Lf%8) ap l hS AJ HLt.out (by omega) hi (by omega)),?_⟩;rintro e w ⟨_,hq⟩;obtain ⟨rfl,hS2⟩:=hq (by omega);clear hq hS;have hS:=hS2;clear hS2;rw [HN.out];refine Ae ?_;go_step|go_skip|refine X0 ?_|refine FJ ?_|refine JM 78 ?_ ?_<;>intro hB<;>(try exact AW)<;>go_step|refine Za ?_|refine X6 ?_|refine Zd ?_|refine AG ?_;go_step|fail)
   all_goals (try exact AW)
   all_goals
    refine AM (xs:=[_,_]) rfl (.cons (AC.tmp rfl) (.cons (AC.tmp rfl) (.nil))) (by simp) rfl ?_
    exact EP 4 (by rw [hR4.out]) (by rw [hR4.out]) hS.1
  have hm:Lf%8=Lf:=by omega
  have hpow:(2:Int)^Lf≤128∧1≤(2:Int)^Lf:=by
   have h1:Lf=0∨Lf=1∨Lf=2∨Lf=3∨Lf=4∨Lf=5∨Lf=6∨Lf=7:=by omega
   rcases h1 with h|h|h|h|h|h|h|h<;>rw [h]<;>decide
  have hNl:BF l i Lf=N:=by rw [←HN.out,hm]
  by_cases hyes:(N:Int)=2^Lf-1
  ·have hR0:DL (R=(0,acc)):=⟨by
    have h1:(((2^Lf:Nat)):Int)=(2:Int)^Lf:=by push_cast;rfl
    rw [HR2.out,if_pos ⟨by omega,by rw [hNl];omega⟩]⟩
   clear HR2 hNl hm
   repeat' (first
    | (refine AS 68 ?_);refine AN (f:=89) Tryz.call89 AA ?_;refine ⟨_,(HL0.out),?_⟩;rintro e w ⟨rfl,hE⟩;rw [HLF.out];replace hS:=hS.ext hE;clear hE;refine Ae ?_;go_step|refine ZM 73 ?_|(refine AS 74 ?_);refine AN (f:=90) Tryz.call90 AA ?_;refine ⟨_,(DY w0 _ _ _ gr nl cp i (Lf%8) ap l hS AJ HLt.out (by omega) hi (by omega)),?_⟩;rintro e w ⟨_,hq⟩;obtain ⟨rfl,hS2⟩:=hq (by omega);clear hq hS;have hS:=hS2;clear hS2;rw [HN.out];refine Ae ?_;go_step|refine X0 ?_|refine Gz ?_|refine JM 78 ?_ ?_<;>intro hB<;>(try exact AW)<;>go_step|refine Za ?_|refine X6 ?_|(with_reducible refine An _ (.binOp .shl _ _ _ _) ?_);(refine As AA (V.shl1 rfl rfl BI (by omega)) ?_;go_step)|refine WW ?_|refine IJ ?_|refine Zd ?_|refine AG ?_;go_step|fail)
   all_goals (try exact AW)
   repeat' (first
    | refine AG ?_;go_step|fail)
   refine AM (xs:=[_,_]) rfl (.cons (AC.tmp rfl) (.cons (AC.tmp rfl) (.nil))) (by simp) rfl ?_
   exact ⟨ao,co,k,by rw [hR0.out];exact HAL.out,by rw [hR0.out];rfl,by rw [hR0.out];exact hS.sub AV⟩
  have hR4:DL (R=(4,[])):=⟨by
   rw [HR2.out,if_neg ?_]
   rintro ⟨_,h⟩
   rw [hNl] at h
   have h1:(((2^Lf:Nat)):Int)=(2:Int)^Lf:=by push_cast;rfl
   have h2:=Nat.two_pow_pos Lf
   omega⟩
  clear HR2 hNl hm
  repeat' (first
   | (refine AS 68 ?_);refine AN (f:=89) Tryz.call89 AA ?_;refine ⟨_,(HL0.out),?_⟩;rintro e w ⟨rfl,hE⟩;rw [HLF.out];replace hS:=hS.ext hE;clear hE;refine Ae ?_;go_step|refine ZM 73 ?_|(refine AS 74 ?_);refine AN (f:=90) Tryz.call90 AA ?_;refine ⟨_,(DY w0 _ _ _ gr nl cp i (Lf%8) ap l hS AJ HLt.out (by omega) hi (by omega)),?_⟩;rintro e w ⟨_,hq⟩;obtain ⟨rfl,hS2⟩:=hq (by omega);clear hq hS;have hS:=hS2;clear hS2;rw [HN.out];refine Ae ?_;go_step|refine X0 ?_|refine Gz ?_|refine JM 78 ?_ ?_<;>intro hB<;>(try exact AW)<;>go_step|refine Za ?_|refine X6 ?_|(with_reducible refine An _ (.binOp .shl _ _ _ _) ?_);(refine As AA (V.shl1 rfl rfl BI (by omega)) ?_;go_step)|refine WW ?_|refine IJ ?_|refine Zd ?_|refine AG ?_;go_step|fail)
  all_goals (try exact AW)
  all_goals
   refine AM (xs:=[_,_]) rfl (.cons (AC.tmp rfl) (.cons (AC.tmp rfl) (.nil))) (by simp) rfl ?_
   exact EP 4 (by rw [hR4.out]) (by rw [hR4.out]) hS.1
theorem LR(w0:World)(C1 C2 S1 S2:List Int)(a1 a2:Option Addr)(n1 n2 k1 k2:Nat)(hC1:Ap C1 16)(hC2:Ap C2 16)(hs1:Sl w0 1 (.slice a1 n1 k1) n1 (S1.map (Value.int .i64)))(hs2:Sl w0 1 (.slice a2 n2 k2) n2 (S2.map (Value.int .i64)))(hn1:n1≤9223372036854775807)(hn2:n2≤9223372036854775807)(ad:Option Addr)(nb c:Nat)(z:Int)(E:Int)(hE:Dw C1 S1 C2 S2=E)(h0:E≠0):
 Calls Tryz.prog 51 #[.agg (AI [.ints C1, .val (.slice a1 n1 k1), .ints C2, .val (.slice a2 n2 k2)]).toArray, .slice ad nb c, .int .i64 z] w0 (FS w0 E []):=by
 have hS:=St.start w0
 have HE:=AD hE
 clear hE
 go_enter Tryz.func51,Tryz.ntmps51
 repeat' (first
  | (refine AS 21 ?_);refine AN (f:=85) Tryz.call85 AA ?_;refine ⟨_,(OI _ C1 C2 S1 S2 a1 a2 n1 n2 k1 k2 hC1 hC2 (hs1.ext hS.1) (hs2.ext hS.1) hn1 hn2 E HE.out h0),?_⟩;rintro e w ⟨rfl,hE2⟩;replace hS:=hS.ext hE2;clear hE2;refine Ae ?_;go_step|refine X0 ?_|refine X6 ?_|refine X3 ?_|refine PG 3 ?_;clear hS;intro g3 w hS|refine QU ?_|refine AG ?_;go_step|fail)
 all_goals (try exact AW)
 refine AM (xs:=[_,_]) rfl (.cons (AC.tmp rfl) (.cons (AC.tmp rfl) (.nil))) (by simp) rfl ?_
 exact EP E rfl rfl hS.1
theorem LP(w0:World)(C1 C2 S1 S2:List Int)(a1 a2:Option Addr)(n1 n2 k1 k2:Nat)(hC1:Ap C1 16)(hC2:Ap C2 16)(hs1:Sl w0 1 (.slice a1 n1 k1) n1 (S1.map (Value.int .i64)))(hs2:Sl w0 1 (.slice a2 n2 k2) n2 (S2.map (Value.int .i64)))(hn1:n1≤9223372036854775807)(hn2:n2≤9223372036854775807)(ad:Option Addr)(nb c:Nat)(z:Int)(hT1:BA C1 S1=0)(hT2:BA C2 S2=0)(hz:z<0∨400<z):
 Calls Tryz.prog 51 #[.agg (AI [.ints C1, .val (.slice a1 n1 k1), .ints C2, .val (.slice a2 n2 k2)]).toArray, .slice ad nb c, .int .i64 z] w0 (FS w0 1 []):=by
 have hS:=St.start w0
 have HT1:=AD hT1
 have HT2:=AD hT2
 clear hT1 hT2
 rcases hz with hz|hz
 all_goals
  go_enter Tryz.func51,Tryz.ntmps51
  repeat' (first
   | (refine AS 21 ?_);refine AN (f:=85) Tryz.call85 AA ?_;refine ⟨_,(Hf _ C1 C2 S1 S2 a1 a2 n1 n2 k1 k2 hC1 hC2 (hs1.ext hS.1) (hs2.ext hS.1) hn1 hn2 HT1.out HT2.out),?_⟩;rintro e w ⟨gc,rfl,hS2⟩;replace hS:=hS.call1 hS2;clear hS2;refine Ae ?_;go_step|refine X0 ?_|refine X6 ?_|refine X3 ?_|refine PG 3 ?_;clear hS;intro g3 w hS|refine QU ?_|refine AG ?_;go_step|fail)
  all_goals (try exact AW)
  repeat' (first
   | go_skip|((first|(with_reducible refine JG ?_)|(with_reducible refine QW ?_));(first|go_big_want|go_step);go_step)|((with_reducible refine An _ (.pick _ _ _) ?_);first|(refine BJ rfl AA ?_;go_step)|(refine BC rfl AA ?_;go_step))|((refine AS 28 ?_);(refine Cg _ (V.lss rfl rfl) AA (fun hB=>?_) (fun hB=>?_)<;>(try exact AW)<;>go_step))|((with_reducible refine An _ (.binOp .gtr _ _ _ _) ?_);(refine As AA (V.gtr rfl rfl) ?_;go_step))|(refine AG ?_;go_step)|fail)
  all_goals (try exact AW)
  refine AM (xs:=[_,_]) rfl (.cons (AC.tmp rfl) (.cons (AC.tmp rfl) (.nil))) (by simp) rfl ?_
  exact EP 1 rfl rfl hS.1
theorem JI(w0:World)(C1 C2 S1 S2:List Int)(a1 a2:Option Addr)(n1 n2 k1 k2:Nat)(hC1:Ap C1 16)(hC2:Ap C2 16)(hs1:Sl w0 1 (.slice a1 n1 k1) n1 (S1.map (Value.int .i64)))(hs2:Sl w0 1 (.slice a2 n2 k2) n2 (S2.map (Value.int .i64)))(hn1:n1≤9223372036854775807)(hn2:n2≤9223372036854775807)(ad:Option Addr)(nb c:Nat)(b:List Int)(z:Int)
 (hb:nb≤1000000000) (hv:Sl w0 1 (.slice ad nb c) nb (b.map (Value.int .u8))) (hnil:ad=none→c=0) (hx:∀x∈b,0≤x∧x<256) (hml:∃m,w0.cell? ⟨0,0,none⟩=some (.int .i64 m)) (hT1:BA C1 S1=0) (hT2:BA C2 S2=0) (hz:0≤z∧z≤400) (hno:∀cc,b≠Db cc):
 Calls Tryz.prog 51 #[.agg (AI [.ints C1, .val (.slice a1 n1 k1), .ints C2, .val (.slice a2 n2 k2)]).toArray, .slice ad nb c, .int .i64 z] w0 (FS w0 4 []):=by
 have hS:=St.start w0
 have HT1:=AD hT1
 have HT2:=AD hT2
 have HX:=AD hx
 have HNO:=AD hno
 clear hT1 hT2 hx hno
 go_enter Tryz.func51,Tryz.ntmps51
 repeat' (first
  | (refine AS 21 ?_);refine AN (f:=85) Tryz.call85 AA ?_;refine ⟨_,(Hf _ C1 C2 S1 S2 a1 a2 n1 n2 k1 k2 hC1 hC2 (hs1.ext hS.1) (hs2.ext hS.1) hn1 hn2 HT1.out HT2.out),?_⟩;rintro e w ⟨gc,rfl,hS2⟩;replace hS:=hS.call1 hS2;clear hS2;refine Ae ?_;go_step|refine X0 ?_|refine X6 ?_|refine X3 ?_|refine PG 3 ?_;clear hS;intro g3 w hS|refine QU ?_|refine AG ?_;go_step|fail)
 all_goals (try exact AW)
 repeat' (first
  | refine X1 ?_|refine Gz ?_|refine EN 28 ?_ ?_<;>intro hB<;>(try exact AW)<;>go_step|refine Gv ?_|refine AG ?_;go_step|fail)
 all_goals (try exact AW)
 repeat' (first
  | (refine AS 35 ?_);refine AN (f:=86) Tryz.call86 AA ?_;refine ⟨_,(Ia w ad nb c b (hv.ext hS.1) hnil HX.out hb (by obtain ⟨m,hm⟩:=hml;exact ⟨m,hS.1.cell hm⟩)),?_⟩;rintro e w ⟨_,hq⟩;obtain ⟨rfl,hE2⟩:=hq HNO.out;clear hq;replace hS:=hS.ext hE2;clear hE2;refine Ae ?_;go_step|refine X0 ?_|refine X6 ?_|refine X3 ?_|refine AG ?_;go_step|fail)
 all_goals (try exact AW)
 refine AM (xs:=[_,_]) rfl (.cons (AC.tmp rfl) (.cons (AC.tmp rfl) (.nil))) (by simp) rfl ?_
 exact EP 4 rfl rfl hS.1
open Classical in
noncomputable def Wo(b:List Int):Option (List Nat):=if h:∃l:List Nat,(∀x∈l,x<256)∧b=Db (FU l) then some h.choose else none
theorem Wj{a b:List Nat}(h:FU a=FU b):a=b:=by
 unfold FU at h
 exact (List.map_inj_right (fun x y e=>by omega)).1 h
theorem Wp{l:List Nat}(hl:∀x∈l,x<256):Wo (Db (FU l))=some l:=by
 have h:∃m:List Nat,(∀x∈m,x<256)∧Db (FU l)=Db (FU m):=⟨l,hl,rfl⟩
 unfold Wo
 rw [dif_pos h]
 have:=h.choose_spec.2
 exact congrArg some (Wj (JZ _ _ this)).symm
theorem Np{b:List Int}{l:List Nat}(h:Wo b=some l):(∀x∈l,x<256)∧b=Db (FU l):=by
 unfold Wo at h
 split at h
 ·rename_i h1
  have:=h1.choose_spec
  rw [Option.some.inj h] at this
  exact this
 cases h
theorem VF{cc:List Int}:∀x∈cc,x∈Db cc:=by
 intro x hx
 unfold Db Gi
 rw [List.mem_flatMap]
 refine ⟨x,hx,?_⟩
 split
 ·rename_i h;subst h;simp
 simp
theorem Ts{b:List Int}(hx:∀x∈b,0≤x∧x<256)(h:Wo b=none):∀cc,b≠Db cc:=by
 rintro cc rfl
 have h1:∃l:List Nat,(∀x∈l,x<256)∧Db cc=Db (FU l):=by
  refine ⟨cc.map Int.toNat,fun x hx2=>?_,?_⟩
  ·obtain ⟨y,hy,rfl⟩:=List.mem_map.1 hx2
   have:=hx y (VF y hy)
   omega
  congr 1
  unfold FU
  rw [List.map_map]
  symm
  rw [List.map_congr_left (g:=id) (fun x hx2=>by have:=hx x (VF x hx2);simp;omega),List.map_id]
 unfold Wo at h
 rw [dif_pos h1] at h
 cases h
noncomputable def GI(C1 S1 C2 S2:List Int)(b:List Int)(z:Int):Int×List Int:=
 if Dw C1 S1 C2 S2=0 then if 0≤z∧z≤400 then match Wo b with
  | none=>(4,[])
  | some l=>PR (Bu C1 S1) (Bu C2 S2) l z.toNat
 else (1,[]) else (Dw C1 S1 C2 S2,[])
theorem Hx{C1 S1 C2 S2:List Int}(h:Dw C1 S1 C2 S2=0):BA C1 S1=0∧BA C2 S2=0:=by
 unfold Dw at h
 by_cases h1:BA C1 S1=0
 ·rw [if_pos h1] at h;exact ⟨h1,h⟩
 rw [if_neg h1] at h;exact absurd h h1
theorem LO(w0:World)(C1 C2 S1 S2:List Int)(a1 a2:Option Addr)(n1 n2 k1 k2:Nat)(hC1:Ap C1 16)(hC2:Ap C2 16)(hs1:Sl w0 1 (.slice a1 n1 k1) n1 (S1.map (Value.int .i64)))(hs2:Sl w0 1 (.slice a2 n2 k2) n2 (S2.map (Value.int .i64)))(hn1:n1≤9223372036854775807)(hn2:n2≤9223372036854775807)(ad:Option Addr)(nb c:Nat)(b:List Int)(z:Int)
 (hb:nb≤1000000000) (hv:Sl w0 1 (.slice ad nb c) nb (b.map (Value.int .u8))) (hnil:ad=none→c=0) (hx:∀x∈b,0≤x∧x<256) (hml:∃m,w0.cell? ⟨0,0,none⟩=some (.int .i64 m)) (R:Int×List Int) (hR:GI C1 S1 C2 S2 b z=R):
 Calls Tryz.prog 51 #[.agg (AI [.ints C1, .val (.slice a1 n1 k1), .ints C2, .val (.slice a2 n2 k2)]).toArray, .slice ad nb c, .int .i64 z] w0 (FS w0 R.1 R.2):=by
 subst hR
 unfold GI
 by_cases hT:Dw C1 S1 C2 S2=0
 ·rw [if_pos hT]
  obtain ⟨h1,h2⟩:=Hx hT
  by_cases hz:0≤z∧z≤400
  ·rw [if_pos hz]
   cases hd:Wo b with
   | none=>exact JI w0 C1 C2 S1 S2 a1 a2 n1 n2 k1 k2 hC1 hC2 hs1 hs2 hn1 hn2 ad nb c b z hb hv hnil hx hml h1 h2 hz (Ts hx hd)
   | some l=>
     obtain ⟨hl,rfl⟩:=Np hd
     obtain ⟨n,rfl⟩:∃n:Nat,z=(n:Int):=⟨z.toNat,by omega⟩
     exact LQ w0 C1 C2 S1 S2 a1 a2 n1 n2 k1 k2 hC1 hC2 hs1 hs2 hn1 hn2 ad nb c l n hb hv hnil hl hml (by omega) h1 h2 _ rfl
  rw [if_neg hz]
  exact LP w0 C1 C2 S1 S2 a1 a2 n1 n2 k1 k2 hC1 hC2 hs1 hs2 hn1 hn2 ad nb c z h1 h2 (by omega)
 rw [if_neg hT]
 exact LR w0 C1 C2 S1 S2 a1 a2 n1 n2 k1 k2 hC1 hC2 hs1 hs2 hn1 hn2 ad nb c z _ rfl hT
theorem P6{C1 S1 C2 S2 b:List Int}{z:Int}(h:(GI C1 S1 C2 S2 b z).1=0):
 ∃n:Nat,z=(n:Int)∧n≤400∧(GI C1 S1 C2 S2 b z).2.length=n*64∧Cj C1 S1 C2 S2 (GI C1 S1 C2 S2 b z).2 n=0∧DT C1 S1 C2 S2 (GI C1 S1 C2 S2 b z).2 n=b:=by
 unfold GI at h⊢
 by_cases ht:Dw C1 S1 C2 S2=0
 case neg=>rw [if_neg ht] at h;exact absurd h ht
 rw [if_pos ht] at h⊢
 obtain ⟨t1,t2⟩:=Hx ht
 by_cases hz:0≤z∧z≤400
 case neg=>rw [if_neg hz] at h;cases h
 rw [if_pos hz] at h⊢
 cases hd:Wo b with
 | none=>rw [hd] at h;cases h
 | some l=>
   rw [hd] at h
   dsimp only at h⊢
   obtain ⟨hl,hb⟩:=Np hd
   obtain ⟨k1,k2,k3,k4⟩:=R7 (Bp t1) (Bp t2) hl h
   have hz2:z.toNat≤400:=by omega
   have hblk:Bb (PR (Bu C1 S1) (Bu C2 S2) l z.toNat).2 z.toNat=0:=by
    unfold Bb
    rw [if_neg (by omega),if_pos k2]
   have he:=G8 (Bu C1 S1) (Bu C2 S2) _ [] k3
   have h0:Cj C1 S1 C2 S2 (PR (Bu C1 S1) (Bu C2 S2) l z.toNat).2 z.toNat=0:=by
    unfold Cj
    rw [if_pos ht,if_pos hblk,he]
   refine ⟨z.toNat,by omega,hz2,k1,h0,?_⟩
   unfold DT Br
   rw [if_pos h0,he]
   dsimp only
   rw [List.nil_append,k4,hb]
def IV(n every:Int):Prop:=0≤every∧every≤100∧0≤n∧n≤400
instance(n every:Int):Decidable (IV n every):=by unfold IV;infer_instance
def aC(b:List Int):Int:=match Dk b [] [] [] with
 | none=>4
 | some _=>0
def OS(C1 S1 C2 S2 b:List Int)(n every:Int):Int:=if IV n every then if Dw C1 S1 C2 S2=0 then aC b else Dw C1 S1 C2 S2 else 1
def Vw(w0:World)(b:List Int)(e:Ending)(w:World):Prop:=
 ∀ps ms,Dk b [] [] []=some (ps,ms)→∃(pcs:List Pc) (ao am:Option Addr) (co cm lo lm:Nat),lo=ps.length∧lm=ms.length∧pcs.map (·.xs)=ps∧e= .returned (.tuple #[.slice ao lo co, .slice am lm cm, .int .i64 0])∧
  St w0 w [own 35 1 ao lo co (pcs.map Pc.val),own 3 1 am lm cm (ms.map (Value.int .i64)),star (pcs.map Pc.res)]
def QN(w0:World)(E:Int)(b:List Int)(e:Ending)(w:World):Prop:=
 (E≠0→e= .returned (.tuple #[.slice none 0 0, .slice none 0 0, .int .i64 E])∧Al w0 w)∧(E=0→Vw w0 b e w)
theorem Q9{w0 w:World}{E:Int}{b:List Int}(E':Int)(h:E=E')(h0:E'≠0)(hE:Al w0 w):QN w0 E b (.returned (.tuple #[.slice none 0 0, .slice none 0 0, .int .i64 E'])) w:=by
 subst h
 exact ⟨fun _=>⟨rfl,hE⟩,fun h=>absurd h h0⟩
theorem KK(w0:World)(C1 C2 S1 S2:List Int)(a1 a2:Option Addr)(n1 n2 k1 k2:Nat)(hC1:Ap C1 16)(hC2:Ap C2 16)(hs1:Sl w0 1 (.slice a1 n1 k1) n1 (S1.map (Value.int .i64)))(hs2:Sl w0 1 (.slice a2 n2 k2) n2 (S2.map (Value.int .i64)))(hn1:n1≤9223372036854775807)(hn2:n2≤9223372036854775807)(ad:Option Addr)(nb c:Nat)(b:List Int)(n every:Int)
 (hb:nb≤1000000000) (hv:Sl w0 1 (.slice ad nb c) nb (b.map (Value.int .u8))) (hx:∀x∈b,0≤x∧x<256):
 Calls Tryz.prog 84 #[.agg (AI [.ints C1, .val (.slice a1 n1 k1), .ints C2, .val (.slice a2 n2 k2)]).toArray, .slice ad nb c, .int .i64 n, .int .i64 every] w0 (QN w0 (OS C1 S1 C2 S2 b n every) b):=by
 have hS:=St.start w0
 have hL1:=AD (Dc C1 (.slice a1 n1 k1) hC1)
 have hL2:=AD (Dc C2 (.slice a2 n2 k2) hC2)
 have HX:=AD hx
 obtain ⟨E1,hE1⟩:∃x,BA C1 S1=x:=⟨_,rfl⟩
 obtain ⟨E2,hE2⟩:∃x,BA C2 S2=x:=⟨_,rfl⟩
 have HE1:=AD hE1
 have HE2:=AD hE2
 have HT:=AD (show Dw C1 S1 C2 S2=if E1=0 then E2 else E1 by unfold Dw;rw [hE1,hE2])
 clear hE1 hE2 hx
 by_cases hok:IV n every
 case neg=>
  have HP:=AD (show OS C1 S1 C2 S2 b n every=1 by unfold OS;rw [if_neg hok])
  have hbad:(every<0)∨(100<every)∨(n<0)∨(400<n):=by unfold IV at hok;omega
  clear hok
  rcases hbad with h|h|h|h
  all_goals
   go_enter Tryz.func84,Tryz.ntmps84
   repeat' (first
    | go_skip|((first|(with_reducible refine JG ?_)|(with_reducible refine QW ?_));(first|go_big_want|go_step);go_step)|((with_reducible refine An _ (.pick _ _ _) ?_);first|(refine BJ rfl AA ?_;go_step)|(refine BC rfl AA ?_;go_step))|((refine AS 15 ?_);(refine Cg _ (V.lss rfl rfl) AA (fun hB=>?_) (fun hB=>?_)<;>(try exact AW)<;>go_step))|((refine AS 18 ?_);(refine Cg _ (V.gtr rfl rfl) AA (fun hB=>?_) (fun hB=>?_)<;>(try exact AW)<;>go_step))|((refine AS 22 ?_);(refine Cg _ (V.lss rfl rfl) AA (fun hB=>?_) (fun hB=>?_)<;>(try exact AW)<;>go_step))|((with_reducible refine An _ (.binOp .gtr _ _ _ _) ?_);(refine As AA (V.gtr rfl rfl) ?_;go_step))|((refine AS 4 ?_);(refine Ag ?_;apply H4 (o:=⟨some 4,_,_,_,_,_⟩) hS 34 _ rfl _ rfl;clear hS;intro g4 w hS;refine AB ?_;go_step))|(refine AG ?_;go_step)|fail)
   all_goals (try exact AW)
   all_goals
    refine AM (xs:=[_,_,_]) rfl (.cons (AC.tmp rfl) (.cons (AC.tmp rfl) (.cons (AC.tmp rfl) (.nil)))) (by simp) rfl ?_
    exact Q9 1 HP.out (by decide) hS.1
 have HP:=AD (show OS C1 S1 C2 S2 b n every=if Dw C1 S1 C2 S2=0 then aC b else Dw C1 S1 C2 S2 by unfold OS;rw [if_pos hok])
 have hok2:=hok
 unfold IV at hok2
 obtain ⟨o1,o2,o3,o4⟩:=hok2
 clear hok
 go_enter Tryz.func84,Tryz.ntmps84
 repeat' (first
  | refine X0 ?_|refine Gz ?_|refine EN 15 ?_ ?_<;>intro hB<;>(try exact AW)<;>go_step|refine JM 18 ?_ ?_<;>intro hB<;>(try exact AW)<;>go_step|refine EN 22 ?_ ?_<;>intro hB<;>(try exact AW)<;>go_step|refine Gv ?_|refine PG 4 ?_;clear hS;intro g4 w hS|refine AG ?_;go_step|fail)
 all_goals (try exact AW)
 repeat' (first
  | (refine AS 32 ?_);refine Ag ?_;refine AU (o:=⟨some 32,_,_,_,_,_⟩) hS 115 2 _ rfl 32 17 152 Ns _ _ (AX.agg rfl hL1.out (AX.agg rfl hL2.out AX.nil)) rfl (by decide) (by decide) ?_;clear hS;intro g32 w hS;replace hS:=Hu hS;refine AB ?_;go_step|refine X1 ?_|refine aV ?_|refine aW ?_|refine bi ?_|refine LU ?_|refine AG ?_;go_step|fail)
 clear hL1 hL2
 go_loopg [34] 2 (fun gk kv w=>∃k:Nat,gk+k=2∧kv= .int .i64 k∧(1≤k→E1=0)∧(2≤k→E2=0)∧St w0 w [prt g32 [.ints C1, .val (.slice a1 n1 k1), .ints C2, .val (.slice a2 n2 k2)]])
 case atStart=>exact ⟨0,rfl,rfl,fun h=>absurd h (by omega),fun h=>absurd h (by omega),hS.sub AV⟩
 case round=>
  clear hS
  obtain ⟨k,hk,rfl,HA,HB,hS⟩:=hrel
  by_cases hlt:k<2
  ·obtain rfl|rfl:k=0∨k=1:=by omega
   ·clear HA HB
    repeat' (first
     | (refine A3 73 ?_);refine A4 AA Tryz.call73 (CT _ C1 S1 a1 n1 k1 hC1 (hs1.ext hS.1) hn1) ?_;rintro e w ⟨rfl,hE2⟩;rw [HE1.out];replace hS:=hS.ext hE2;clear hE2;refine Ae ?_;go_step|refine X0 ?_|refine X2 ?_|refine Vk 36 ?_|refine X3 ?_|refine X7 ?_|refine LU ?_|refine Rk 12 ?_;clear hS;intro g12 w hS|refine TE ?_;clear hS;intro w hS|refine AG ?_;go_step|fail)
    ·refine AM (xs:=[_,_,_]) rfl (.cons (AC.tmp rfl) (.cons (AC.tmp rfl) (.cons (AC.tmp rfl) (.nil)))) (by simp) rfl ?_
     exact Q9 E1 (by rw [HP.out,HT.out,if_neg (show ¬E1=0 by omega),if_neg (by omega)]) (by omega) hS.1
    go_roundg (gk-1)
    case measure=>omega
    case rel=>exact ⟨1,by omega,rfl,fun _=>by omega,fun h=>absurd h (by omega),hS.sub AV⟩
   have h1:=HA (by omega)
   subst h1
   clear HA HB
   repeat' (first
    | (refine A3 73 ?_);refine A4 AA Tryz.call73 (CT _ C2 S2 a2 n2 k2 hC2 (hs2.ext hS.1) hn2) ?_;rintro e w ⟨rfl,hE2⟩;rw [HE2.out];replace hS:=hS.ext hE2;clear hE2;refine Ae ?_;go_step|refine X0 ?_|refine X2 ?_|refine Vk 36 ?_|refine X3 ?_|refine X7 ?_|refine LU ?_|refine Rk 12 ?_;clear hS;intro g12 w hS|refine TE ?_;clear hS;intro w hS|refine AG ?_;go_step|fail)
   ·refine AM (xs:=[_,_,_]) rfl (.cons (AC.tmp rfl) (.cons (AC.tmp rfl) (.cons (AC.tmp rfl) (.nil)))) (by simp) rfl ?_
    exact Q9 E2 (by rw [HP.out,HT.out,if_pos rfl,if_neg (by omega)]) (by omega) hS.1
   go_roundg (gk-1)
   case measure=>omega
   case rel=>exact ⟨2,by omega,rfl,fun _=>rfl,fun _=>by omega,hS.sub AV⟩
  obtain rfl:k=2:=by omega
  have h1:=HA (by omega)
  have h2:=HB (by omega)
  subst h1;subst h2
  have HP2:=AD (show OS C1 S1 C2 S2 b n every=aC b by rw [HP.out,HT.out,if_pos rfl,if_pos rfl])
  cases hsp:Dk b [] [] [] with
  | none=>
    have HSP:=AD hsp
    have HP3:=AD (show OS C1 S1 C2 S2 b n every=4 by rw [HP2.out];unfold aC;rw [hsp])
    clear hsp
    repeat' (first
     | refine X1 ?_|refine X2 ?_|refine AG ?_;go_step|fail)
    repeat' (first
     | (refine AS 45 ?_);refine AN (f:=60) Tryz.call60 AA ?_;refine ⟨_,(Ih _ ad nb c b (hv.ext hS.1) HX.out hb),?_⟩;rintro e w ⟨hq,_⟩;obtain ⟨rfl,hE2⟩:=hq HSP.out;clear hq;replace hS:=hS.ext hE2;clear hE2;refine Ae ?_;go_step|refine X8 ?_|refine X6 ?_|refine AG ?_;go_step|fail)
    refine AM (xs:=[_,_,_]) rfl (.cons (AC.tmp rfl) (.cons (AC.tmp rfl) (.cons (AC.tmp rfl) (.nil)))) (by simp) rfl ?_
    exact Q9 4 HP3.out (by decide) hS.1
  | some y=>
    obtain ⟨ps,ms⟩:=y
    have HSP:=AD hsp
    have HP3:=AD (show OS C1 S1 C2 S2 b n every=0 by rw [HP2.out];unfold aC;rw [hsp])
    clear hsp
    repeat' (first
     | refine X1 ?_|refine X2 ?_|refine AG ?_;go_step|fail)
    repeat' (first
     | (refine AS 45 ?_);refine AN (f:=60) Tryz.call60 AA ?_;refine ⟨_,(Ih _ ad nb c b (hv.ext hS.1) HX.out hb),?_⟩;rintro e w ⟨_,hq⟩;obtain ⟨pcs,ao,am,co,cm,lo,lm,hlo,hlm,hpc,rfl,hS2⟩:=hq _ _ HSP.out;clear hq;have HQ:=AD (And.intro hlo (And.intro hlm hpc));clear hlo hlm hpc;replace hS:=hS.call hS2;dsimp only [List.cons_append,List.nil_append] at hS;clear hS2;refine Ae ?_;go_step|refine X8 ?_|refine X6 ?_|refine AG ?_;go_step|fail)
    refine AM (xs:=[_,_,_]) rfl (.cons (AC.tmp rfl) (.cons (AC.tmp rfl) (.cons (AC.tmp rfl) (.nil)))) (by simp) rfl ?_
    refine ⟨fun h=>absurd HP3.out h,fun _ ps' ms' hsp'=>?_⟩
    have he:=HSP.out.symm.trans hsp'
    obtain ⟨rfl,rfl⟩:ps=ps'∧ms=ms':=by simpa using he
    exact ⟨pcs,ao,am,co,cm,lo,lm,HQ.out.1,HQ.out.2.1,HQ.out.2.2,rfl,hS.sub AV⟩
theorem Nf(m0:Int)(m1:Int)(w:World):(Instr.build 94 #[(0, .int .i64 m0),(1, .int .i64 m1)]).run Tryz.prog w= .ok (.agg #[.int .i64 m0, .int .i64 m1]) w:=by kernel_rfl
def Dg(n every:Nat):Nat→Nat→List (Nat×Nat)
 | 0,_=>[]
 | f+1,at_=>if at_<n then (at_,min (at_+every) n)::Dg n every f (at_+every) else []
def Bc(n every:Nat):List (Nat×Nat):=if every=0∨n=0 then [(0,n)] else Dg n every n 0
def P7(L:List (Nat×Nat)):List Int:=L.flatMap fun x=>[(x.1:Int),(x.2:Int)]
theorem Uz(L:List (Nat×Nat))(x:Nat×Nat):P7 (L++[x])=P7 L++[(x.1:Int),(x.2:Int)]:=by simp [P7]
theorem JY:∀(L:List (Nat×Nat))(k:Nat)(x:Nat×Nat),L[k]? =some x→((P7 L).drop (k*2)).take 2=[(x.1:Int),(x.2:Int)]
 | [],k,x,h=>by simp at h
 | y::L,0,x,h=>by obtain rfl:y=x:=(by simpa using h);simp [P7]
 | y::L,k+1,x,h=>by
   have:=JY L k x (by simpa using h)
   rw [show (k+1)*2=k*2+2 by omega]
   simpa [P7] using this
theorem El(w0:World)(n every:Nat)(hn:n≤1048576)(he:every≤1048576):
 Calls Tryz.prog 50 #[.int .i64 n, .int .i64 every] w0 fun e w=>∃ad c m,(Bc n every).length=m∧e= .returned (.slice ad m c)∧St w0 w [own 94 2 ad m c ((P7 (Bc n every)).map (Value.int .i64))]:=by
 have hS:=St.start w0
 by_cases h0:every=0∨n=0
 ·have HP:=AD (show Bc n every=[(0,n)] by unfold Bc;rw [if_pos h0])
  rcases h0 with h0|h0
  all_goals
   subst h0
   go_enter Tryz.func50,Tryz.ntmps50
   repeat' (first
    | (refine AS 15 ?_);(refine Ag ?_;apply DF (o:=⟨some 15,_,_,_,_,_⟩) hS 91 1 _ rfl 94 2 16 Zt _ _;(case hvs=>(repeat (first|exact AX.nil|(apply AX.agg;(rfl);(rfl))|(apply AX.one;exact CG;(rfl);(rfl)))));(case hn=>rfl);(case hn0=>decide);(case hns=>decide);clear hS;intro g15 w hS;simp only [List.cons_append,List.nil_append] at hS;refine AB ?_;go_step)|go_skip|refine X0 ?_|refine IL ?_|refine IA 8 ?_ ?_<;>intro hB<;>(try exact AW)<;>go_step|refine TT ?_|(refine AS 14 ?_);(refine As AA (V.build (vs:=[(0,_),(1,_)]) rfl (Nf _ _)) ?_;go_step)|refine AG ?_;go_step|fail)
   all_goals (try exact AW)
   all_goals
    go_ret
    refine ⟨_,_,1,by rw [HP.out];rfl,rfl,?_⟩
    rw [HP.out]
    exact hS.sub (xs:=[own 94 2 (some ⟨g15,0,none⟩) 1 1 [.int .i64 0, .int .i64 (_:Nat)]]) AV
 have HP:=AD (show Bc n every=Dg n every n 0 by unfold Bc;rw [if_neg h0])
 have he1:0<every:=by omega
 have hn1:0<n:=by omega
 clear h0
 go_enter Tryz.func50,Tryz.ntmps50
 repeat' (first
  | refine X0 ?_|refine Gz ?_|refine IA 8 ?_ ?_<;>intro hB<;>(try exact AW)<;>go_step|refine TT ?_|refine AG ?_;go_step|fail)
 all_goals (try exact AW)
 repeat' (first
  | refine AG ?_;go_step|fail)
 replace hS:=hS.nilk 94 2 .i64
 go_loopg [5,6] n (fun gk ov iv_ w=>∃(at_ m:Nat) (o:List (Nat×Nat)) (ad:Option Addr) (c:Nat),iv_= .int .i64 at_∧ov= .slice ad m c∧n≤gk+at_∧at_≤n+every∧m≤at_∧Hid (o.length=m)∧Hid (Bc n every=o++Dg n every gk at_)∧St w0 w [own 94 2 ad m c ((P7 o).map (Value.int .i64))])
 case atStart=>exact ⟨0,0,[],none,0,rfl,rfl,by omega,by omega,by omega,AD rfl,AD (by rw [HP.out];rfl),hS⟩
 case round=>
  clear hS
  obtain ⟨at_,m,o,ad,c,rfl,rfl,hg,ha,hm,HO,HA,hS⟩:=hrel
  by_cases hr0:at_<n
  ·obtain ⟨f,rfl⟩:∃f,gk=f+1:=⟨gk-1,by omega⟩
   have ha:=HA.out
   rw [Dg,if_pos hr0] at ha
   obtain ⟨q,hq⟩:∃q,min (at_+every) n=q:=⟨_,rfl⟩
   rw [hq] at ha
   have HA2:=AD ha
   have HSF:=AD (Uz o (at_,q))
   clear ha
   repeat' (first
    | refine X1 ?_|refine X2 ?_|refine AG ?_;go_step|fail)
   all_goals (try exact AW)
   repeat' (first
    | (refine AS 28 ?_);(refine Ak (.int _ (((q:Nat):Int))) (V.as (V.min rfl rfl) (by omega)) (by kernel_rfl) ?_;go_step)|refine X0 ?_|refine X7 ?_|(refine AS 29 ?_);(refine As AA (V.build (vs:=[(0,_),(1,_)]) rfl (Nf _ _)) ?_;go_step)|(refine AS 30 ?_);(refine Ag ?_;apply AU (o:=⟨some 30,_,_,_,_,_⟩) hS 91 1 _ rfl 94 2 16 Zt _ _;(case hvs=>(repeat (first|exact AX.nil|(apply AX.agg;(rfl);(rfl))|(apply AX.one;exact CG;(rfl);(rfl)))));(case hn=>rfl);(case hn0=>decide);(case hns=>decide);clear hS;intro g30 w hS;simp only [List.cons_append,List.nil_append] at hS;refine AB ?_;go_step)|(refine AS 31 ?_);(refine Ag ?_;apply AO (o:=⟨some 31,_,_,_,_,_⟩) hS _ _ 91 rfl 94 2 16 Zt _ _ _ _ rfl;(case hp=>exact AJ);(case hx=>exact rfl);(case hm=>(first|exact hS.slBlk AJ (by rfl) (by decide)|exact hS.sl AJ|with_reducible assumption|exact Sl.ext (by with_reducible assumption) hS.1|exact Sl.nil _ _|exact Sl.ext (by assumption) hS.1|assumption));(case h1=>(first|exact Ad rfl|exact Ac _ _|(intro u hu;cases hu)));(case h63=>unfold maxLen;omega);(case hb=>omega);clear hS;intro ad31 c31 w hS;(first|simp only [Av] at hS|simp only [Aw] at hS|simp only [Ax] at hS|simp only [Ay] at hS|simp only [Az] at hS|skip);refine AB ?_;go_step)|refine AG ?_;go_step|fail)
   repeat' (first
    | refine AG ?_;go_step|fail)
   go_roundg f
   case measure=>omega
   case rel=>exact ⟨at_+every,m+1,o++[(at_,q)],_,_,by go_num,rfl,by omega,by omega,by omega,AD (by rw [List.length_append,HO.out];rfl),AD (by rw [HA2.out];simp),by rw [HSF.out];exact hS.sub AV⟩
  have hp:Bc n every=o:=by
   rw [HA.out]
   have:Dg n every gk at_=[]:=by
    cases gk with
    | zero=>rfl
    | succ f=>rw [Dg,if_neg hr0]
   rw [this,List.append_nil]
  have HPO:=AD hp
  clear hp
  repeat' (first
   | refine X0 ?_|refine X2 ?_|refine AG ?_;go_step|fail)
  all_goals (try exact AW)
  repeat' (first
   | refine AG ?_;go_step|fail)
  go_ret
  refine ⟨_,_,m,by rw [HPO.out];exact HO.out,rfl,?_⟩
  rw [HPO.out]
  exact hS.sub AV
theorem KA(w0:World)(k:Nat)(hk:k≤1000000000):Calls Tryz.prog 74 #[.int .i64 k] w0 fun e w=>e= .returned (.int .i64 ((208+k%8:Nat):Int))∧Al w0 w:=by
 have hS:=St.start w0
 go_enter Tryz.func74,Tryz.ntmps74
 repeat' (first
  | (refine AS 4 ?_);(refine Ak (.int _ (((k%8:Nat):Int))) (V.as (V.rem rfl rfl (by omega) (by omega)) (by omega)) (by kernel_rfl) ?_;go_step)|(refine AS 5 ?_);(refine Ak (.int _ (((208+k%8:Nat):Int))) (V.as (V.addI rfl rfl (by omega)) (by omega)) (by kernel_rfl) ?_;go_step)|refine X0 ?_|refine AG ?_;go_step|fail)
 go_ret
 exact ⟨rfl,hS.1⟩
def IT(ms:List Int)(n:Nat):Bool:=(List.range n).all fun k=>decide (AK ms k=((208+k%8:Nat):Int))
theorem SR(ms:List Int)(n:Nat):IT ms (n+1)=(IT ms n&&decide (AK ms n=((208+n%8:Nat):Int))):=by
 unfold IT;rw [List.range_succ,List.all_append];simp
theorem UR{ms:List Int}{n k:Nat}(hk:k<n)(h:AK ms k≠((208+k%8:Nat):Int)):IT ms n=false:=by
 cases e:IT ms n
 ·rfl
 unfold IT at e
 rw [List.all_eq_true] at e
 have:=e k (List.mem_range.2 hk)
 exact absurd (of_decide_eq_true this) h
def NQ(C1 S1 C2 S2 b:List Int)(n every:Int):Int:=if OS C1 S1 C2 S2 b n every=0 then match Dk b [] [] [] with
 | none=>4
 | some y=>if y.1.length=(Bc n.toNat every.toNat).length then if IT y.2 y.2.length then 0 else 6 else 4
 else OS C1 S1 C2 S2 b n every
def QQ(w0:World)(E:Int)(b:List Int)(m:Nat)(e:Ending)(w:World):Prop:=
 (E≠0→e= .returned (.tuple #[.slice none 0 0, .int .i64 E])∧Al w0 w)∧
 (E=0→∃(pcs:List Pc) (ms:List Int) (ao:Option Addr) (co:Nat),Dk b [] [] []=some (pcs.map (·.xs),ms)∧pcs.length=m∧e= .returned (.tuple #[.slice ao m co, .int .i64 0])∧St w0 w [own 35 1 ao m co (pcs.map Pc.val),star (pcs.map Pc.res)])
theorem VT{w0 w:World}{E:Int}{b:List Int}{m:Nat}(E':Int)(h:E=E')(h0:E'≠0)(hE:Al w0 w):QQ w0 E b m (.returned (.tuple #[.slice none 0 0, .int .i64 E'])) w:=by
 subst h
 exact ⟨fun _=>⟨rfl,hE⟩,fun h=>absurd h h0⟩
theorem OT{C1 S1 C2 S2 b:List Int}{n every:Int}(h:OS C1 S1 C2 S2 b n every=0):IV n every∧Dw C1 S1 C2 S2=0∧∃y,Dk b [] [] []=some y:=by
 unfold OS at h
 by_cases h1:IV n every
 case neg=>rw [if_neg h1] at h;cases h
 rw [if_pos h1] at h
 by_cases h2:Dw C1 S1 C2 S2=0
 case neg=>rw [if_neg h2] at h;exact absurd h h2
 rw [if_pos h2] at h
 refine ⟨h1,h2,?_⟩
 unfold aC at h
 cases hs:Dk b [] [] [] with
 | none=>rw [hs] at h;cases h
 | some y=>exact ⟨y,rfl⟩
theorem Em:∀(b:List Int)(o:List (List Int))(m p:List Int)(ps:List (List Int))(ms:List Int),Dk b o m p=some (ps,ms)→ms.length≤m.length+b.length
 | [],o,m,p,ps,ms,h=>by
   rw [Dk] at h
   have:=(Prod.mk.injEq _ _ _ _▸ Option.some.inj h:_∧_).2
   rw [←this];simp
 | [x],o,m,p,ps,ms,h=>by
   rw [Dk] at h
   split at h
   ·cases h
   have:=Em [] o m (p++[x]) ps ms h
   simp at this⊢;omega
 | x::y::b,o,m,p,ps,ms,h=>by
   rw [Dk] at h
   split at h
   ·split at h
    ·cases h
    split at h
    ·have:=Em b o m _ ps ms h
     simp at this⊢;omega
    have:=Em b _ _ _ ps ms h
    simp at this⊢;omega
   have:=Em (y::b) o m (p++[x]) ps ms h
   simp at this⊢;omega
theorem L4(w0:World)(C1 C2 S1 S2:List Int)(a1 a2:Option Addr)(n1 n2 k1 k2:Nat)(hC1:Ap C1 16)(hC2:Ap C2 16)(hs1:Sl w0 1 (.slice a1 n1 k1) n1 (S1.map (Value.int .i64)))(hs2:Sl w0 1 (.slice a2 n2 k2) n2 (S2.map (Value.int .i64)))(hn1:n1≤9223372036854775807)(hn2:n2≤9223372036854775807)(ad:Option Addr)(nb c:Nat)(b:List Int)(n every:Int)
 (hb:nb≤1000000000) (hv:Sl w0 1 (.slice ad nb c) nb (b.map (Value.int .u8))) (hx:∀x∈b,0≤x∧x<256):
 Calls Tryz.prog 49 #[.agg (AI [.ints C1, .val (.slice a1 n1 k1), .ints C2, .val (.slice a2 n2 k2)]).toArray, .slice ad nb c, .int .i64 n, .int .i64 every] w0 (QQ w0 (NQ C1 S1 C2 S2 b n every) b (Bc n.toNat every.toNat).length):=by
 have hS:=St.start w0
 have HX:=AD hx
 clear hx
 by_cases hP:OS C1 S1 C2 S2 b n every=0
 case neg=>
  obtain ⟨E,hE⟩:∃E,OS C1 S1 C2 S2 b n every=E:=⟨_,rfl⟩
  have h0:E≠0:=by rw [←hE];exact hP
  have HE:=AD hE
  have HW:=AD (show NQ C1 S1 C2 S2 b n every=E by unfold NQ;rw [if_neg hP];exact hE)
  clear hP hE
  go_enter Tryz.func49,Tryz.ntmps49
  repeat' (first
   | (refine AS 20 ?_);refine AN (f:=84) Tryz.call84 AA ?_;refine ⟨_,(KK _ C1 C2 S1 S2 a1 a2 n1 n2 k1 k2 hC1 hC2 (hs1.ext hS.1) (hs2.ext hS.1) hn1 hn2 ad nb c b n every hb (hv.ext hS.1) HX.out),?_⟩;rintro e w ⟨hq,_⟩;rw [HE.out] at hq;obtain ⟨rfl,hE2⟩:=hq h0;clear hq;replace hS:=hS.ext hE2;clear hE2;refine Ae ?_;go_step|refine X0 ?_|refine X6 ?_|refine X3 ?_|refine PG 4 ?_;clear hS;intro g4 w hS|refine QU ?_|refine AG ?_;go_step|fail)
  all_goals (try exact AW)
  refine AM (xs:=[_,_]) rfl (.cons (AC.tmp rfl) (.cons (AC.tmp rfl) (.nil))) (by simp) rfl ?_
  exact VT E HW.out h0 hS.1
 obtain ⟨hok,htb,⟨ps,ms⟩,hsp⟩:=OT hP
 unfold IV at hok
 obtain ⟨N,rfl⟩:∃N:Nat,n=(N:Int):=⟨n.toNat,by omega⟩
 obtain ⟨Ev,rfl⟩:∃N:Nat,every=(N:Int):=⟨every.toNat,by omega⟩
 have HWE:=AD (show NQ C1 S1 C2 S2 b N Ev=if ps.length=(Bc N Ev).length then if IT ms ms.length then 0 else 6 else 4 by unfold NQ;rw [if_pos hP,hsp];dsimp only;rw [Int.toNat_natCast,Int.toNat_natCast])
 rw [Int.toNat_natCast,Int.toNat_natCast]
 obtain ⟨M,hM⟩:∃M,(Bc N Ev).length=M:=⟨_,rfl⟩
 rw [hM] at HWE⊢
 have HM:=AD hM
 have HP:=AD hP
 have HSP:=AD hsp
 clear hP hsp hM htb
 obtain ⟨lp,hlp⟩:∃x,ps.length=x:=⟨_,rfl⟩
 obtain ⟨lm0,hlm0⟩:∃x,ms.length=x:=⟨_,rfl⟩
 rw [hlp,hlm0] at HWE
 have HLP:=AD hlp
 have HLM:=AD hlm0
 clear hlp hlm0
 go_enter Tryz.func49,Tryz.ntmps49
 repeat' (first
  | (refine AS 20 ?_);refine AN (f:=84) Tryz.call84 AA ?_;refine ⟨_,(KK _ C1 C2 S1 S2 a1 a2 n1 n2 k1 k2 hC1 hC2 (hs1.ext hS.1) (hs2.ext hS.1) hn1 hn2 ad nb c b (N:Int) (Ev:Int) hb (hv.ext hS.1) HX.out),?_⟩;rintro e w ⟨_,hq⟩;obtain ⟨pcs,ao,am,co,cm,lo,lm,hlo,hlm,hpc,rfl,hS2⟩:=hq HP.out _ _ HSP.out;clear hq;obtain rfl:lp=lo:=(by rw [hlo];exact HLP.out.symm);obtain rfl:lm0=lm:=(by rw [hlm];exact HLM.out.symm);have HPC:=AD hpc;clear hlo hlm hpc;replace hS:=hS.call hS2;dsimp only [List.cons_append,List.nil_append] at hS;clear hS2;refine Ae ?_;go_step|refine X0 ?_|refine X6 ?_|refine X3 ?_|refine PG 4 ?_;clear hS;intro g4 w hS|refine QU ?_|refine AG ?_;go_step|fail)
 all_goals (try exact AW)
 by_cases hlen:lp=M
 case neg=>
  have HW:=AD (show NQ C1 S1 C2 S2 b N Ev=4 by rw [HWE.out,if_neg hlen])
  repeat' (first
   | (refine AS 31 ?_);refine AN (f:=50) Tryz.call50 AA ?_;refine ⟨_,(El _ N Ev (by omega) (by omega)),?_⟩;rintro e w ⟨a3,c3,m3,hm3,rfl,hS2⟩;obtain rfl:M=m3:=(by rw [←hm3];exact HM.out.symm);clear hm3;replace hS:=hS.ext hS2.1;clear hS2;refine Ae ?_;go_step|refine X0 ?_|(with_reducible refine An _ (.call ⟨.builtin .len,_,_⟩) ?_);(refine As AA (V.len Tryz.underlying88 rfl) ?_;go_step)|refine bk ?_|refine IJ ?_|refine AG ?_;go_step|fail)
  all_goals (try exact AW)
  refine AM (xs:=[_,_]) rfl (.cons (AC.tmp rfl) (.cons (AC.tmp rfl) (.nil))) (by simp) rfl ?_
  exact VT 4 HW.out (by decide) hS.1
 subst hlen
 have HW2:=AD (show NQ C1 S1 C2 S2 b N Ev=if IT ms lm0 then 0 else 6 by rw [HWE.out,if_pos rfl])
 repeat' (first
  | (refine AS 31 ?_);refine AN (f:=50) Tryz.call50 AA ?_;refine ⟨_,(El _ N Ev (by omega) (by omega)),?_⟩;rintro e w ⟨a3,c3,m3,hm3,rfl,hS2⟩;obtain rfl:lp=m3:=(by rw [←hm3];exact HM.out.symm);clear hm3;replace hS:=hS.ext hS2.1;clear hS2;refine Ae ?_;go_step|refine X1 ?_|(with_reducible refine An _ (.call ⟨.builtin .len,_,_⟩) ?_);(refine As AA (V.len Tryz.underlying88 rfl) ?_;go_step)|refine bk ?_|refine IJ ?_|refine AG ?_;go_step|fail)
 all_goals (try exact AW)
 repeat' (first
  | refine X1 ?_|refine TV ?_|refine AG ?_;go_step|fail)
 clear HWE
 have hlmb:lm0≤1000000000:=by
  have:=Em b [] [] [] ps ms HSP.out
  have hbl:b.length=nb:=by have:=hv.1;simpa using this
  rw [HLM.out,hbl] at this
  simp at this
  omega
 go_loopg [36] lm0 (fun gk kv w=>∃k:Nat,gk+k=lm0∧kv= .int .i64 k∧Hid (IT ms k=true)∧St w0 w [own 35 1 ao lp co (pcs.map Pc.val),own 3 1 am lm0 cm (ms.map (Value.int .i64)),star (pcs.map Pc.res)])
 case atStart=>exact ⟨0,rfl,rfl,AD rfl,hS.sub AV⟩
 case round=>
  clear hS
  obtain ⟨k,hk,rfl,HA,hS⟩:=hrel
  by_cases hlt:k<lm0
  ·obtain ⟨g5,rfl⟩:=CE (a:=am) hS AJ (by omega)
   by_cases hq:AK ms k=((208+k%8:Nat):Int)
   ·have HA2:=AD (show IT ms (k+1)=true by rw [SR,HA.out,decide_eq_true hq];rfl)
    repeat' (first
     | (refine AS 43 ?_);refine AN (f:=74) Tryz.call74 AA ?_;refine ⟨_,(KA _ k (by omega)),?_⟩;rintro e w ⟨rfl,hE2⟩;replace hS:=hS.ext hE2;clear hE2;refine Ae ?_;go_step|refine X0 ?_|refine X2 ?_|refine Vl 39 ?_|refine IJ ?_|refine bY ?_|refine AG ?_;go_step|fail)
    all_goals (try exact AW)
    repeat' (first
     | refine X1 ?_|refine X7 ?_|refine AG ?_;go_step|fail)
    go_roundg (gk-1)
    case measure=>omega
    case rel=>exact ⟨k+1,by omega,by go_num,HA2,hS.sub AV⟩
   have HW:=AD (show NQ C1 S1 C2 S2 b N Ev=6 by rw [HW2.out,UR hlt hq];rfl)
   repeat' (first
    | (refine AS 43 ?_);refine AN (f:=74) Tryz.call74 AA ?_;refine ⟨_,(KA _ k (by omega)),?_⟩;rintro e w ⟨rfl,hE2⟩;replace hS:=hS.ext hE2;clear hE2;refine Ae ?_;go_step|refine X0 ?_|refine X2 ?_|refine Vl 39 ?_|refine IJ ?_|refine bY ?_|refine AG ?_;go_step|fail)
   all_goals (try exact AW)
   refine AM (xs:=[_,_]) rfl (.cons (AC.tmp rfl) (.cons (AC.tmp rfl) (.nil))) (by simp) rfl ?_
   exact VT 6 HW.out (by decide) hS.1
  obtain rfl:k=lm0:=by omega
  have HW:=AD (show NQ C1 S1 C2 S2 b N Ev=0 by rw [HW2.out,if_pos HA.out])
  repeat' (first
   | refine X0 ?_|refine X2 ?_|refine AG ?_;go_step|fail)
  repeat' (first
   | refine AG ?_;go_step|fail)
  refine AM (xs:=[_,_]) rfl (.cons (AC.tmp rfl) (.cons (AC.tmp rfl) (.nil))) (by simp) rfl ?_
  exact ⟨fun h=>absurd HW.out h,fun _=>⟨pcs,ms,ao,co,by rw [HPC.out];exact HSP.out,by have:=congrArg List.length HPC.out;rw [List.length_map,HLP.out] at this;exact this,rfl,hS.sub AV⟩⟩
end Go.Proofs.YtohacgmhmbijmaaGreatDoor
