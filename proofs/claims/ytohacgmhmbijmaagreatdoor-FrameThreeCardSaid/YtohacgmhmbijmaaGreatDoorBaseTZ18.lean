/- What the laws FrameThree need, part 18. -/
import Derived.Test.YtohacgmhmbijmaaGreatDoorBaseTZ2
import Derived.Test.YtohacgmhmbijmaaGreatDoorBaseTZ3
import Derived.Test.YtohacgmhmbijmaaGreatDoorBaseTZ4
import Derived.Test.YtohacgmhmbijmaaGreatDoorBaseTZ5
import Derived.Test.YtohacgmhmbijmaaGreatDoorBaseTZ17
import Derived.Test.YtohacgmhmbijmaaGreatDoorProg
namespace Go.Proofs.YtohacgmhmbijmaaGreatDoor
attribute [local irreducible] Region.wanted
open Go.RowKit
set_option linter.unusedVariables false
set_option maxRecDepth 100000
set_option maxHeartbeats 8000000
theorem Jq(m0:Int)(m1:Int)(a2:Option Addr)(n2 c2:Nat)(w:World):(Instr.build 24 #[(0, .int .i64 m0),(1, .int .i64 m1),(2, .slice a2 n2 c2)]).run Tryz.prog w= .ok (.agg #[.int .i64 m0, .int .i64 m1, .slice a2 n2 c2]) w:=by kernel_rfl
theorem SE(n:Int)(i:Nat)(h:i<64):(List.replicate i n++List.replicate (64-i) 0).set i n=List.replicate (i+1) n++List.replicate (64-(i+1)) 0:=by
 obtain ⟨m,hm⟩:∃m,64-i=m+1:=⟨64-i-1,by omega⟩
 rw [hm,show 64-(i+1)=m by omega,List.set_append_right _ _ (by simp),List.length_replicate,Nat.sub_self,List.replicate_succ,List.set_cons_zero,List.replicate_succ',List.append_assoc]
 rfl
theorem Li(w0:World)(n:Int):Calls Tryz.prog 27 #[.int .i64 n] w0 fun e w=>e= .returned (.agg (iv (List.replicate 64 n)))∧Al w0 w:=by
 have hS:=St.start w0
 go_enter Tryz.func27,Tryz.ntmps27
 repeat' (first
  | refine X1 ?_|refine JL 2 ?_;clear hS;intro g2 w hS|refine AG ?_;go_step|fail)
 go_loopg [4] 64 (fun gk kv w=>∃k:Nat,gk+k=64∧kv= .int .i64 k∧St w0 w [arr g2 64 (List.replicate k n++List.replicate (64-k) 0)])
 case atStart=>exact ⟨0,rfl,rfl,by rw [show List.replicate 0 n++List.replicate (64-0) 0=List.replicate 64 0 by simp];exact hS.sub AV⟩
 case round=>
  clear hS
  obtain ⟨k,hk,rfl,hS⟩:=hrel
  by_cases hlt:k<64
  ·have HX:=AD (SE n k hlt)
   repeat' (first
    | refine X0 ?_|refine X2 ?_|refine WT 9 ?_|refine X7 ?_|refine V9 ?_;clear hS;intro w hS|refine AG ?_;go_step|fail)
   go_roundg (gk-1)
   case measure=>omega
   case rel=>exact ⟨k+1,by omega,by go_num,by rw [←HX.out];exact hS.sub AV⟩
  obtain rfl:k=64:=by omega
  rw [show List.replicate 64 n++List.replicate (64-64) 0=List.replicate 64 n by simp] at hS
  repeat' (first
   | refine X2 ?_|refine IK ?_|refine Ew ?_;clear hS;intro w hS|refine AG ?_;go_step|fail)
  refine BW rfl (AC.arr hS rfl (AP (n:=64) rfl) AJ) rfl ?_
  exact ⟨rfl,hS.1⟩
theorem Gc(w0:World)(hml:∃m,w0.cell? ⟨0,0,none⟩=some (.int .i64 m)):Calls Tryz.prog 15 #[] w0 fun e w=>e= .returned (.bool true)∧Al w0 w:=by
 have hS:=St.start w0
 have HML:=AD hml
 have HE:Hid (∀w a6 a7,BT w a7 1 [⟨a6,1,[128]⟩]→Calls Tryz.prog 17 #[.agg #[.int .i64 1, .int .i64 1, .slice a7 1 1], .agg (iv (List.replicate 64 1)), .int .i64 0] w fun e w'=>∃(C1 S1 C2 S2 D:List Int) (a1 a2 ad:Option Addr) (n1 k1 n2 k2 nd kd:Nat),Yn (List.replicate 64 0) 1 0 C1 S1 C2 S2 D∧
  e= .returned (.tuple #[.agg (AI [.val (.int .i64 1), .val (.int .i64 1), .val (.int .i64 1), .ints (List.replicate 64 1), .ints C1, .val (.slice a1 n1 k1), .ints C2, .val (.slice a2 n2 k2), .val (.int .i64 0), .val (.slice ad nd kd)]).toArray, .int .i64 0])∧St w w' [own 3 1 a1 n1 k1 (S1.map (Value.int .i64)),own 3 1 a2 n2 k2 (S2.map (Value.int .i64)),own 5 1 ad nd kd (D.map (Value.int .u8))]):=
  fun w a6 a7 hP=>Wu w 1 (by decide) 0 (by decide) a6 a7 1 1 hP
 have HD:Hid (∀w (C1 S1 C2 S2 D:List Int) (a1 a2 ad:Option Addr) (n1 k1 n2 k2 nd kd:Nat),(∃m,w.cell? ⟨0,0,none⟩=some (.int .i64 m))→Yn (List.replicate 64 0) 1 0 C1 S1 C2 S2 D→Sl w 1 (.slice a1 n1 k1) n1 (S1.map (Value.int .i64))→Sl w 1 (.slice a2 n2 k2) n2 (S2.map (Value.int .i64))→Sl w 1 (.slice ad nd kd) nd (D.map (Value.int .u8))→
  Calls Tryz.prog 21 #[.agg (AI [.val (.int .i64 1), .val (.int .i64 1), .val (.int .i64 1), .ints (List.replicate 64 1), .ints C1, .val (.slice a1 n1 k1), .ints C2, .val (.slice a2 n2 k2), .val (.int .i64 0), .val (.slice ad nd kd)]).toArray] w fun e w'=>∃(a:Option Addr) (c:Nat) (R:List Rw),R.map (·.xs)=[[128]]∧e= .returned (.tuple #[.agg #[.int .i64 1, .int .i64 1, .slice a R.length c], .int .i64 0])∧DO w w' a c R []):=
  fun w C1 S1 C2 S2 D a1 a2 ad n1 k1 n2 k2 nd kd hm he s1 s2 sd=>by
   refine (Wm w (m:=1) (h:=1) (np:=1) (n:=1) (K:=1) (q:=List.replicate 64 1) (B:=List.replicate 64 0) (ev:=0) (by decide) (.inl rfl) List.length_replicate (by decide+kernel) (by decide) (by decide+kernel) rfl rfl (by decide+kernel) he s1 s2 sd hm).mono fun e w' hh=>?_
   obtain ⟨a,c,R,r1,r2,r3⟩:=hh
   exact ⟨a,c,R,r1.trans (W7 1 (by decide)),r2,r3⟩
 clear hml
 go_enter Tryz.func15,Tryz.ntmps15
 repeat' (first
  | refine X8 ?_|(refine AS 8 ?_);(refine As AA (V.build (vs:=[(0,_),(1,_),(2,_)]) rfl (Jq _ _ _ _ _)) ?_;go_step)|refine bF 6 ?_;clear hS;intro g6 w hS|refine Ys 7 ?_;clear hS;intro g7 w hS|refine ZW 1 ?_;clear hS;intro g1 w hS|refine ZZ ?_;clear hS;intro w hS|refine AG ?_;go_step|fail)
 refine AQ [2,7] (fun w=>St w0 w [blk g1 [.int .i64 1, .int .i64 1, .slice (some ⟨g7,0,none⟩) 1 1],blk g7 [.slice (some ⟨g6,0,none⟩) 1 1],blk g6 [.int .i64 128]]) AA ?_
 replace hS:=hS.drew
 focus
  apply Cb 0 Am AA AA AA Ch [2,3,4,5,7,8] AA (hS.sub AV)
  case hfr=>intro w hS;((refine Ag ?_;apply Di hS 24 _ rfl _ rfl 3 (AP rfl) _;(case hp=>exact AJ);(case hn=>rfl);refine AB ?_;go_step));refine wpList_nil ?_;exact ⟨rfl,rfl⟩
  case hd=>rfl
  refine A1 [1,6] AA (by simp) (.cons Am AA ?_ (.cons Am AA ?_ (.nil)))
  rotate_left 1
  focus
   refine Zi ?_;clear hS;intro g2 w hS
   refine Aa 1 ?_
   refine Af (f:=27) rfl Tryz.call27 (Li _ 1) ?_;rintro e w ⟨rfl,hE⟩;replace hS:=hS.ext hE;clear hE;refine ⟨_,rfl,?_⟩
   refine ⟨fun _ _=>hS.sub AV,?_⟩
   refine AF ?_
   go_step
   refine Aa 2 ?_
   refine Af (f:=17) rfl Tryz.call17 (HE.out _ (some ⟨g6,0,none⟩) (some ⟨g7,0,none⟩) (JW (xs:=[128]) (cs:=[.int .i64 128]) hS AJ AJ rfl rfl (by decide))) ?_;rintro e w ⟨C1,S1,C2,S2,D,a1,a2,ad,n1,k1,n2,k2,nd,kd,hen,rfl,hS2⟩;replace hS:=hS.call hS2;clear hS2;simp only [List.cons_append,List.nil_append] at hS;have hC1:=hen.l1;have hC2:=hen.l2;have HEN:=AD hen;clear hen;refine ⟨_,rfl,?_⟩
   refine ⟨fun h=>absurd (by decide) h,?_⟩
   refine AF ?_
   go_step
   refine Ab 3 ?_
   refine Y4 4 ?_
   refine Y4 5 ?_
   refine Aa 7 ?_
   refine Zj ?_;clear hS;intro w hS
   refine Ab 8 ?_
   refine AE AA ?_ _
  rotate_right 1
  focus
   refine Af (f:=27) rfl Tryz.call27 (Li _ 1) ?_;rintro e w ⟨rfl,hE⟩;replace hS:=hS.ext hE;clear hE;refine ⟨_,rfl,?_⟩
   refine ⟨fun _ _=>hS.sub AV,?_⟩
   refine AF ?_
   go_step
   refine A1 [2,6] AA (by simp) (.cons Am AA ?_ (.cons Am AA ?_ (.nil)))
   rotate_left 1
   focus
    refine Zi ?_;clear hS;intro g2 w hS
    refine Aa 2 ?_
    refine Af (f:=17) rfl Tryz.call17 (HE.out _ (some ⟨g6,0,none⟩) (some ⟨g7,0,none⟩) (JW (xs:=[128]) (cs:=[.int .i64 128]) hS AJ AJ rfl rfl (by decide))) ?_;rintro e w ⟨C1,S1,C2,S2,D,a1,a2,ad,n1,k1,n2,k2,nd,kd,hen,rfl,hS2⟩;replace hS:=hS.call hS2;clear hS2;simp only [List.cons_append,List.nil_append] at hS;have hC1:=hen.l1;have hC2:=hen.l2;have HEN:=AD hen;clear hen;refine ⟨_,rfl,?_⟩
    refine ⟨fun h=>absurd (by decide) h,?_⟩
    refine AF ?_
    go_step
    refine Ab 3 ?_
    refine Y4 4 ?_
    refine Y4 5 ?_
    refine Aa 7 ?_
    refine Zj ?_;clear hS;intro w hS
    refine Ab 8 ?_
    refine AE AA ?_ _
   rotate_right 1
   focus
    refine Af (f:=17) rfl Tryz.call17 (HE.out _ (some ⟨g6,0,none⟩) (some ⟨g7,0,none⟩) (JW (xs:=[128]) (cs:=[.int .i64 128]) hS AJ AJ rfl rfl (by decide))) ?_;rintro e w ⟨C1,S1,C2,S2,D,a1,a2,ad,n1,k1,n2,k2,nd,kd,hen,rfl,hS2⟩;replace hS:=hS.call hS2;clear hS2;simp only [List.cons_append,List.nil_append] at hS;have hC1:=hen.l1;have hC2:=hen.l2;have HEN:=AD hen;clear hen;refine ⟨_,rfl,?_⟩
    refine ⟨fun h=>absurd (by decide) h,?_⟩
    refine AF ?_
    go_step
    refine Ab 3 ?_
    refine Y4 4 ?_
    refine Y4 5 ?_
    refine Aa 6 ?_
    refine Zi ?_;clear hS;intro g2 w hS
    refine Aa 7 ?_
    refine Zj ?_;clear hS;intro w hS
    refine Ab 8 ?_
    refine AE AA ?_ _
 all_goals
  repeat' (first|(refine AG ?_;go_step)|fail)
  repeat' (first
   | (refine A3 21 ?_);refine A4 AA Tryz.call21 (HD.out _ C1 S1 C2 S2 D a1 a2 ad n1 k1 n2 k2 nd kd (HML.out.imp fun m h=>hS.1.cell h) HEN.out (hS.sl AJ) (hS.sl AJ) (hS.sl AJ)) ?_;rintro e w ⟨a9,c9,R9,hR9,rfl,hP9⟩;replace hS:=hS.call hP9;clear hP9;simp only [List.cons_append,List.nil_append] at hS;have HR9:=AD hR9;clear hR9;refine Ae ?_;go_step|(refine A3 23 ?_);refine A4 AA Tryz.call23 (LI _ 1 1 (some ⟨g7,0,none⟩) a9 1 c9 [⟨some ⟨g6,0,none⟩,1,[128]⟩] R9 (JW (xs:=[128]) (cs:=[.int .i64 128]) hS AJ AJ rfl rfl (by decide)) (BT.of hS AJ AJ) (by show 1≤9223372036854775807;omega) HR9.out.symm) (Gb hS ?_);clear hS;intro w hS;go_step|refine X0 ?_|refine FJ ?_|refine IA 21 ?_ ?_<;>intro hB<;>(try exact AW)<;>go_step|refine IA 24 ?_ ?_<;>intro hB<;>(try exact AW)<;>go_step|refine X6 ?_|refine aY ?_|refine ZW 4 ?_;clear hS;intro g4 w hS|refine ZZ ?_;clear hS;intro w hS|refine TG ?_|refine AG ?_;go_step|fail)
  all_goals (try exact AW)
  all_goals (try (have hF:False:=(hB rfl);cases hF))
  all_goals
   go_ret
   exact ⟨rfl,hS.1⟩
theorem W4(m h:Int)(q l:List Int):LC m h q [l]=O8 q (MI l m h) (Aq m h):=by
 unfold LC Cc;show IC m h q [l]=_;rw [IC,IC,List.append_nil]
theorem W6{m h:Int}{q a b c:List Int}(f1 f2 f3:Int→Int→Int→Int)(b1:∀x y z,0≤f1 x y z∧f1 x y z≤255)(b2:∀x y z,0≤f2 x y z∧f2 x y z≤255)(b3:∀x y z,0≤f3 x y z∧f3 x y z≤255)(h0:J4 m h q [a,b,c]=0):
 ∀l∈Cc f1 f2 f3 [a,b,c],J4 m h q [l]=0:=by
 intro l hl
 unfold J4 at h0⊢
 have hp:E9 m h [a,b,c]=0:=by
  split at h0
  ·assumption
  exact absurd h0 (by assumption)
 rw [if_pos hp] at h0
 unfold E9 at hp
 split at hp
 ·rename_i hok
  rw [if_pos (.inr rfl)] at hp
  have hc:=Ly f1 f2 f3 b1 b2 b3 (KI hp) l hl
  have:E9 m h [l]=0:=by
   unfold E9;rw [if_pos hok,if_pos (.inl rfl)]
   exact Q8 fun x hx=>by obtain rfl:=List.mem_singleton.1 hx;exact hc
  rw [if_pos this];exact h0
 cases hp
theorem Ka(F:Nat→Int)(n:Nat):Do (n+1) F=Do n F++[F n]:=by simp [Do,List.range_succ]
theorem W5(m h:Int)(q a b c:List Int):LC m h q [a,b,c]=IC m h q [z3 NP a b c,z3 NN a b c,z3 NO a b c]:=by unfold LC Cc;rfl
theorem Ui{m h:Int}{q:List Int}{L:List (List Int)}{k:Nat}{l:List Int}(hk:L[k]? =some l):IC m h q (L.take (k+1))=IC m h q (L.take k)++LC m h q [l]:=by
 obtain ⟨hk1,rfl⟩:=List.getElem?_eq_some_iff.1 hk
 rw [W4,OV hk1]
theorem BT.one{W w:World}{rs r1 r2:List Au}{R:List Rw}{g k i kk:Nat}{pk:Option Addr}{lk:List Int}(hS:St W w rs)(p1:AT (blk g [.slice pk i kk]) rs r1)(p2:AT (star (R.map Rw.res)) rs r2)(hr:R[k]? =some ⟨pk,kk,lk⟩)(hl:lk.length=i):BT w (some ⟨g,0,none⟩) 1 [⟨pk,kk,lk⟩]:=by
 subst hl
 refine ⟨hS.slBlk (n:=1) (s:=1) p1 rfl (by decide),fun r hm=>?_⟩
 obtain rfl:=List.mem_singleton.1 hm
 obtain ⟨s,hs⟩:=hS.starGet p2 (List.mem_map.2 ⟨_,List.mem_of_getElem? hr,rfl⟩)
 exact hs.sl (show AT (own 3 1 pk lk.length kk (lk.map (Value.int .i64))) (Rw.res ⟨pk,kk,lk⟩::s) s from .head)
theorem Zn{w:World}{a:Option Addr}{n c:Nat}{l:List Int}(hv:Sl w 64 (.slice a n c) n (l.map (Value.int .i64)))(k:Nat)(hk:k<n):∃b off,a=some ⟨b,off,none⟩∧w.rangeAt b (off+k*64) ((Bm l 64 k).map (Value.int .i64)):=by
 obtain ⟨hl,a',c',e,_,_,hor⟩:=hv
 cases e
 rw [List.length_map] at hl
 rcases hor with h0|⟨b,off,rfl,hc⟩
 ·omega
 refine ⟨b,off,rfl,fun j v hj=>?_⟩
 have hs:=CM l 64 k n hl hk
 have hj64:j<64:=by
  rcases Nat.lt_or_ge j 64 with h|h
  ·exact h
  rw [List.getElem?_eq_none (by rw [List.length_map,hs];exact h)] at hj;cases hj
 rw [Nat.add_assoc,hc (k*64+j) (by omega),List.getElem?_map]
 rw [List.getElem?_map] at hj
 rw [←hj]
 unfold Bm
 rw [List.getElem?_take,if_pos hj64,List.getElem?_drop]
theorem SC(w0:World)(a b:Option Addr)(n c d:Nat)(xs:List Int)(ha:Sl w0 64 (.slice a n c) n (xs.map (Value.int .i64)))(hb:Sl w0 64 (.slice b n d) n (xs.map (Value.int .i64)))(hn:n≤9223372036854775807):
 Calls Tryz.prog 22 #[.slice a n c, .slice b n d] w0 fun e w=>e= .returned (.bool true)∧Al w0 w:=by
 have hlx:xs.length=n*64:=by have:=ha.1;simpa using this
 have HX:=AD hlx
 clear hlx
 have hS:=St.start w0
 go_enter Tryz.func22,Tryz.ntmps22
 repeat' (first
  | refine X0 ?_|refine TF ?_|refine IJ ?_|refine AG ?_;go_step|fail)
 all_goals (try exact AW)
 repeat' (first
  | refine AG ?_;go_step|fail)
 go_loopg [14] n (fun gk kv w=>∃k:Nat,gk+k=n∧kv= .int .i64 k∧St w0 w [])
 case atStart=>exact ⟨0,rfl,rfl,hS.sub AV⟩
 case round=>
  clear hS
  obtain ⟨k,hk,rfl,hS⟩:=hrel
  by_cases hlt:k<n
  ·obtain ⟨bb,ob,rfl,hrb⟩:=Zn hb k hlt
   have hly:Ap (Bm xs 64 k) 64:=CM xs 64 k n HX.out hlt
   have hd:Hid (decide (Bm xs 64 k≠Bm xs 64 k)=false):=AD (by simp)
   repeat' (first
    | refine X0 ?_|refine X2 ?_|refine YA 17 ?_;intro b17 o17 hl17 hc17;go_step|refine WI ?_|refine JL 6 ?_;clear hS;intro g6 w hS|refine Ew ?_;clear hS;intro w hS|refine AG ?_;go_step|fail)
   all_goals (try exact AW)
   refine AQ [] (fun w=>St w0 w [arr g6 64 (Bm xs 64 k)]) AA ?_
   replace hS:=hS.drew
   focus
    refine cr 0 [5] ?_
    refine Ab 1 ?_
    refine Ab 2 ?_
    refine Bf 3 BU (V.indexSl Tryz.underlying42 Hc rfl rfl BI (by omega) rfl BO) ?_;go_step
    apply Cb 4 Am AA AA AA Ch [5] AA (hS.sub AV)
    case hfr=>intro w hS;((refine Ag ?_;apply DV hS 26 _ rfl _ _ rfl 64 (AP rfl) _;(case hl=>with_reducible assumption);(case hr=>with_reducible assumption);refine AB ?_;go_step));refine wpList_nil ?_;exact ⟨rfl,rfl⟩
    case hd=>rfl
    refine Bf 5 BU (V.neqA b9 rfl rfl (by (repeat (first|assumption|exact Ap.rep|apply Ap.set|((with_reducible show Ap (_::_) _);exact rfl)))) (by (repeat (first|assumption|exact Ap.rep|apply Ap.set|((with_reducible show Ap (_::_) _);exact rfl))))) ?_;go_step
    refine AE AA ?_ _
   all_goals
    repeat' (first|(refine AG ?_;go_step)|fail)
    rw [hd.out]
    repeat' (first
     | refine X1 ?_|refine X7 ?_|refine AG ?_;go_step|fail)
    go_roundg (gk-1)
    case measure=>omega
    case rel=>exact ⟨k+1,by omega,by go_num,hS.sub AV⟩
  obtain rfl:k=n:=by omega
  repeat' (first
   | refine X8 ?_|refine X2 ?_|refine AG ?_;go_step|fail)
  all_goals (try exact AW)
  repeat' (first
   | refine AG ?_;go_step|fail)
  go_ret
  exact ⟨rfl,hS.1⟩
end Go.Proofs.YtohacgmhmbijmaaGreatDoor
namespace Go.Proofs.YtohacgmhmbijmaaGreatDoor
attribute [local irreducible] Region.wanted
open Go.ChangeShapes Go.WideShapes Go.ChangeAt Go.RowKit
set_option linter.unusedVariables false
set_option maxRecDepth 100000
set_option maxHeartbeats 8000000
theorem Ub{W:World}{base:Nat}{v:Value}(ho:Value.okWide Tryz.prog W .any base 26 v):
 ∃l:List Int,l.length=64∧v= .agg (iv l)∧∀i,i<64→ -9223372036854775808≤AK l i∧AK l i≤9223372036854775807:=by
 obtain ⟨l,hl,hv,hb⟩:=Z5 (ts:=List.replicate 64 3) (by rw [Tryz.underlying26]) AA (fun u hu=>by rw [List.eq_of_mem_replicate hu];exact Tryz.underlying3) ho
 have hc:Tryz.prog.cellsOf 26=64:=by kernel_rfl
 rw [hc] at hl
 exact ⟨l,hl,hv,fun i hi=>hb i (by omega)⟩
end Go.Proofs.YtohacgmhmbijmaaGreatDoor
