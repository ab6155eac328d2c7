/- What the laws RescueWhole TopTold FrameBack need, part 8. -/
import Derived.Test.YtohacgmhmbijmaaGreatDoorBaseSZ2
import Derived.Test.YtohacgmhmbijmaaGreatDoorBaseSZ3
import Derived.Test.YtohacgmhmbijmaaGreatDoorBaseSZ5
import Derived.Test.YtohacgmhmbijmaaGreatDoorBaseSZ6
import Derived.Test.YtohacgmhmbijmaaGreatDoorBaseSZ7
namespace Go.Proofs.YtohacgmhmbijmaaGreatDoor
attribute [local irreducible] Region.wanted
open Go.RowKit
set_option linter.unusedVariables false
set_option maxRecDepth 100000
set_option maxHeartbeats 8000000
structure Pc where
 ad:Option Addr
 c:Nat
 xs:List Int
def Pc.val(p:Pc):Value:= .slice p.ad p.xs.length p.c
def Pc.res(p:Pc):Aq:=own 5 1 p.ad p.xs.length p.c (p.xs.map (Value.int .u8))
theorem TY{W w:World}{pcs:List Pc}{rs rs':List Aq}(h:St W w rs)(p:AU (star (pcs.map Pc.res)) rs rs'){x:Pc}(hx:x∈pcs):Sl w 1 x.val x.xs.length (x.xs.map (Value.int .u8)):=by
 obtain ⟨s,hs⟩:=h.starGet p (List.mem_map.2 ⟨x,hx,rfl⟩)
 exact hs.sl (show AU (own 5 1 x.ad x.xs.length x.c (x.xs.map (Value.int .u8))) (Pc.res x::s) s from .head)
def D9:List Int→List (List Int)→List Int→List Int→Option (List (List Int)×List Int)
 | [],o,m,p=>some (o++[p],m)
 | x::l,o,m,p=>if x=255 then (match l with
   | []=>none
   | y::l'=>if y=255 then none else if y=0 then D9 l' o m (p++[255,0]) else D9 l' (o++[p]) (m++[y]) []) else D9 l o m (p++[x])
theorem eI(xs:List Int)(i:Nat)(o:List (List Int))(m p:List Int)(h:i<xs.length)(hx:AJ xs i≠255):D9 (xs.drop i) o m p=D9 (xs.drop (i+1)) o m (p++[AJ xs i]):=by
 have e:xs.drop i=AJ xs i::xs.drop (i+1):=by rw [List.drop_eq_getElem_cons h];simp [AJ,List.getD,h]
 rw [e,D9.eq_def];dsimp only;rw [if_neg hx]
theorem bI(xs:List Int)(i:Nat)(o:List (List Int))(m p:List Int)(h:i+1=xs.length)(hx:AJ xs i=255):D9 (xs.drop i) o m p=none:=by
 have e:xs.drop i=AJ xs i::xs.drop (i+1):=by rw [List.drop_eq_getElem_cons (by omega)];simp [AJ,List.getD,show i<xs.length by omega]
 rw [e,List.drop_of_length_le (by omega)];simp only [D9];rw [if_pos hx]
theorem bL(xs:List Int)(i:Nat)(o:List (List Int))(m p:List Int)(h:i+1<xs.length)(hx:AJ xs i=255):
 D9 (xs.drop i) o m p=if AJ xs (i+1)=255 then none else if AJ xs (i+1)=0 then D9 (xs.drop (i+2)) o m (p++[255,0]) else D9 (xs.drop (i+2)) (o++[p]) (m++[AJ xs (i+1)]) []:=by
 have e:xs.drop i=AJ xs i::xs.drop (i+1):=by rw [List.drop_eq_getElem_cons (by omega)];simp [AJ,List.getD,show i<xs.length by omega]
 have e2:xs.drop (i+1)=AJ xs (i+1)::xs.drop (i+2):=by rw [List.drop_eq_getElem_cons h];simp [AJ,List.getD,h]
 rw [e,e2];simp only [D9];rw [if_pos hx]
theorem bK(xs:List Int)(i:Nat)(o:List (List Int))(m p:List Int)(h:xs.length≤i):D9 (xs.drop i) o m p=some (o++[p],m):=by
 rw [List.drop_of_length_le h,D9]
theorem Jk(w0:World)(a:Option Addr)(n c:Nat)(xs:List Int)(hs:Sl w0 1 (.slice a n c) n (xs.map (Value.int .u8)))(hx:∀x∈xs,0≤x∧x<256)(hb:n≤1000000000):
 Calls Tryz.prog 60 #[.slice a n c] w0 fun e w=>(D9 xs [] [] []=none→e= .returned (.tuple #[.slice none 0 0, .slice none 0 0, .int .i64 4])∧Af w0 w)∧
  (∀ps ms,D9 xs [] [] []=some (ps,ms)→∃(pcs:List Pc) (ao am:Option Addr) (co cm lo lm:Nat),lo=ps.length∧lm=ms.length∧pcs.map (·.xs)=ps∧e= .returned (.tuple #[.slice ao lo co, .slice am lm cm, .int .i64 0])∧
    St w0 w [own 35 1 ao lo co (pcs.map Pc.val),own 3 1 am lm cm (ms.map (Value.int .i64)),star (pcs.map Pc.res)]):=by
 have hS:=St.start w0
 have hln:xs.length=n:=by have:=hs.1;simpa using this
 have hcell:∃b0 o0,∀i,i<n→a=some ⟨b0,o0,none⟩∧w0.cell? ⟨b0,o0+i,none⟩=some (.int .u8 (AJ xs i)):=by
  obtain ⟨_,a1,c1,e1,_,_,hor⟩:=hs
  cases e1
  rcases hor with h0|⟨b0,o0,e2,hc⟩
  ·exact ⟨0,0,fun i hi=>by omega⟩
  refine ⟨b0,o0,fun i hi=>⟨e2,?_⟩⟩
  rw [hc i (by omega),List.getElem?_map,Co xs i (by omega)];rfl
 obtain ⟨b0,o0,hcell⟩:=hcell
 have hrng:∀i,i<n→0≤AJ xs i∧AJ xs i<256:=fun i hi=>hx _ (by simp [AJ,List.getD,show i<xs.length by omega])
 have HC:=AD hcell
 have HR:=AD hrng
 have HT:Hid (∃T,D9 xs [] [] []=T):=⟨_,rfl⟩
 obtain ⟨T,hT⟩:=HT.out
 rw [hT]
 clear hcell hrng HT hx hs
 go_enter Tryz.func60,Tryz.ntmps60
 repeat' (first
  | refine X8 ?_|refine AH ?_;go_step|fail)
 go_loopg [5,6,7,8] n (fun gk ov mv pv iv w=>∃(i lo lm lp:Nat) (pcs:List Pc) (m p:List Int) (ao am ap:Option Addr) (co cm cp:Nat),gk+i=n∧lo=pcs.length∧lm=m.length∧lp=p.length∧lo≤i∧lm≤i∧lp≤i∧ov= .slice ao lo co∧mv= .slice am lm cm∧pv= .slice ap lp cp∧iv= .int .i64 i∧
  D9 (xs.drop i) (pcs.map (·.xs)) m p=T∧St w0 w [own 35 1 ao lo co (pcs.map Pc.val),own 3 1 am lm cm (m.map (Value.int .i64)),own 5 1 ap lp cp (p.map (Value.int .u8)),star (pcs.map Pc.res)])
 case atStart=>exact ⟨0,0,0,0,[],[],[],none,none,none,0,0,0,by omega,rfl,rfl,rfl,by omega,by omega,by omega,rfl,rfl,rfl,rfl,hT,(((hS.star0).nilk 5 1 .u8).nilk 3 1 .i64).nil 35 1⟩
 case round=>
  clear hS hT
  obtain ⟨i,lo,lm,lp,pcs,m,p,ao,am,ap,co,cm,cp,hi,hlo,hlm,hlp,hlo2,hlm2,hlp2,rfl,rfl,rfl,rfl,hT,hS⟩:=hrel
  by_cases hlt:i<n
  ·obtain ⟨rfl,hc0⟩:=HC.out i hlt
   by_cases hx:AJ xs i=255
   ·by_cases hend:i+1=n
    ·rw [bI xs i _ _ _ (by omega) hx] at hT
     have HT:=AD hT
     rw [hx] at hc0
     clear hT hx
     repeat' (first
      | refine X1 ?_|refine Zt 11 ?_|refine X5 12 ?_|refine AH ?_;go_step|fail)
     repeat' (first
      | refine X1 ?_|refine WQ 17 ?_|refine KT 19 ?_|refine Yr ?_|refine AH ?_;go_step|fail)
     repeat' (first
      | refine dZ 28 ?_|refine X0 ?_|refine AH ?_;go_step|fail)
     repeat' (first
      | go_big_skip|((first|(with_reducible refine J4 ?_)|(with_reducible refine RI ?_));(first|go_big_want|go_step);go_step)|((with_reducible refine Ak _ (.pick _ _ _) ?_);(refine BD rfl AA ?_;go_step))|((refine AP 45 ?_);(refine CY _ (V.eql rfl rfl) AA (fun hB=>?_) (fun hB=>?_)<;>(try exact AQ)<;>go_step))|((refine AP 44 ?_);(refine Ap AA (V.len Tryz.underlying35 rfl) ?_;go_step))|(refine AH ?_;go_step)|fail)
     refine AM (xs:=[_,_,_]) rfl (.cons (AB.tmp rfl) (.cons (AB.tmp rfl) (.cons (AB.tmp rfl) (.nil)))) (by simp) rfl ?_
     exact ⟨fun _=>⟨rfl,hS.1⟩,fun ps ms h=>by rw [←HT.out] at h;cases h⟩
    rw [bL xs i _ _ _ (by omega) hx] at hT
    obtain ⟨_,hc1⟩:=HC.out (i+1) (by omega)
    have hr:=HR.out (i+1) (by omega)
    rw [hx] at hc0
    obtain ⟨y,hy⟩:∃y,AJ xs (i+1)=y:=⟨_,rfl⟩
    rw [hy] at hT hc1 hr
    clear hx hy
    by_cases hy255:y=255
    ·rw [if_pos hy255] at hT
     have HT:=AD hT
     clear hT
     repeat' (first
      | refine X1 ?_|refine Zt 11 ?_|refine X5 12 ?_|refine AH ?_;go_step|fail)
     repeat' (first
      | refine X1 ?_|refine WQ 17 ?_|refine KT 19 ?_|refine Yr ?_|refine AH ?_;go_step|fail)
     repeat' (first
      | refine dZ 28 ?_|refine X0 ?_|refine AH ?_;go_step|fail)
     repeat' (first
      | refine X0 ?_|refine IL ?_|refine X9 45 ?_ ?_<;>intro hB<;>(try exact AQ)<;>go_step|refine Zt 44 ?_|refine WQ 49 ?_|refine MR 51 ?_|refine Yr ?_|refine AH ?_;go_step|fail)
     refine AM (xs:=[_,_,_]) rfl (.cons (AB.tmp rfl) (.cons (AB.tmp rfl) (.cons (AB.tmp rfl) (.nil)))) (by simp) rfl ?_
     exact ⟨fun _=>⟨rfl,hS.1⟩,fun ps ms h=>by rw [←HT.out] at h;cases h⟩
    rw [if_neg hy255] at hT
    by_cases hy0:y=0
    ·rw [if_pos hy0] at hT
     have HT:=AD hT
     clear hT
     repeat' (first
      | refine X1 ?_|refine Zt 11 ?_|refine X5 12 ?_|refine AH ?_;go_step|fail)
     repeat' (first
      | refine X1 ?_|refine WQ 17 ?_|refine KT 19 ?_|refine Yr ?_|refine AH ?_;go_step|fail)
     repeat' (first
      | refine dZ 28 ?_|refine X0 ?_|refine AH ?_;go_step|fail)
     repeat' (first
      | refine X0 ?_|refine IL ?_|refine X9 45 ?_ ?_<;>intro hB<;>(try exact AQ)<;>go_step|refine Zt 44 ?_|refine WQ 49 ?_|refine MR 51 ?_|refine Yr ?_|refine AH ?_;go_step|fail)
     repeat' (first
      | refine X0 ?_|refine WQ 56 ?_|refine MR 58 ?_|refine Yr ?_|refine ec 60 ?_;clear hS;intro g60 w hS|refine Zm 61 ?_;clear hS;intro ad61 c61 w hS|refine AH ?_;go_step|fail)
     repeat' (first
      | (refine AP 14 ?_);(refine Ag (.int _ (((i+2:Nat):Int))) (V.as (V.addI rfl rfl (by omega)) (by omega)) (by kernel_rfl) ?_;go_step)|refine X8 ?_|refine AH ?_;go_step|fail)
     go_roundg (gk-2)
     case measure=>omega
     case rel=>exact ⟨i+2,lo,lm,lp+2,pcs,m,p++[255,0],_,_,_,_,_,_,by omega,hlo,hlm,by simp;omega,by omega,by omega,by omega,rfl,rfl,rfl,by go_num,HT.out,hS.sub AV⟩
    rw [if_neg hy0] at hT
    have HT:=AD hT
    clear hT
    repeat' (first
     | refine X1 ?_|refine Zt 11 ?_|refine X5 12 ?_|refine AH ?_;go_step|fail)
    repeat' (first
     | refine X1 ?_|refine WQ 17 ?_|refine KT 19 ?_|refine Yr ?_|refine AH ?_;go_step|fail)
    repeat' (first
     | refine dZ 28 ?_|refine X0 ?_|refine AH ?_;go_step|fail)
    repeat' (first
     | refine X0 ?_|refine IL ?_|refine X9 45 ?_ ?_<;>intro hB<;>(try exact AQ)<;>go_step|refine Zt 44 ?_|refine WQ 49 ?_|refine MR 51 ?_|refine Yr ?_|refine AH ?_;go_step|fail)
    repeat' (first
     | refine X8 ?_|refine WQ 56 ?_|refine MR 58 ?_|refine Yr ?_|refine AH ?_;go_step|fail)
    refine AR [10,11] (fun w=>St w0 w []) AA ?_
    replace hS:=hS.drew
    focus
     refine Ab 0 ?_
     refine Ab 1 ?_
     refine Ab 4 ?_
     refine Ab 5 ?_
     refine Ab 6 ?_
     refine BX 7 BU (V.indexSl Tryz.underlying35 U5 rfl rfl BJ (by omega) (Nat.mul_one _) BK) ?_;go_step
     apply Cr 8 Ar AA AA AA Cp [9,10,11,12,13,14] AA (hS.sub AV)
     case hfr=>intro w hS;((refine Ad ?_;apply Aj hS 5 _ rfl _ rfl (AI rfl) _;(case hc=>with_reducible assumption);refine AC ?_;go_step));refine wpList_nil ?_;exact ⟨rfl,rfl⟩
     case hd=>rfl
     refine BX 9 BU (V.convI (by rw [Tryz.underlying5];rfl) Tryz.underlying3 rfl (IntWalk.i64_in _ (by omega))) ?_;go_step
     refine BL [2,10] AA (by simp) (.cons Ar AA ?_ (.cons Ar AA ?_ (.nil)))
     rotate_left 1
     focus
      refine gX ?_;clear hS;intro g39 w hS
      refine At 2 ?_
      refine iG ?_;clear hS;intro g31 w hS
      refine At 3 ?_
      (refine A7 (o:=⟨some 32,_,_,_,_,_⟩) hS _ _ 88 rfl 35 1 24 Us _ _ _ _ rfl AK _ rfl _ _ (by (first|exact hS.slBlk AK (by rfl) (by decide)|exact hS.sl AK|with_reducible assumption|exact Sl.ext (by with_reducible assumption) hS.1|exact Sl.nil _ _|exact Sl.ext (by assumption) hS.1|assumption)) (by (first|exact Cd rfl|exact CE _ _|(intro u hu;cases hu))) (by unfold maxLen;omega) (by omega) ?_;clear hS;intro ad32 c32 w hS;(first|simp only [DX] at hS|simp only [DY] at hS|simp only [DZ] at hS|simp only [Da] at hS|simp only [Db] at hS|skip))
      refine ⟨fun _ _=>hS.sub AV,?_⟩
      refine AL ?_
      go_step
      refine At 11 ?_
      (refine A7 (o:=⟨some 40,_,_,_,_,_⟩) hS _ _ 30 rfl 3 1 8 Mb _ _ _ _ rfl AK _ rfl _ _ (by (first|exact hS.slBlk AK (by rfl) (by decide)|exact hS.sl AK|with_reducible assumption|exact Sl.ext (by with_reducible assumption) hS.1|exact Sl.nil _ _|exact Sl.ext (by assumption) hS.1|assumption)) (by (first|exact Cd rfl|exact CE _ _|(intro u hu;cases hu))) (by unfold maxLen;omega) (by omega) ?_;clear hS;intro ad40 c40 w hS;(first|simp only [DX] at hS|simp only [DY] at hS|simp only [DZ] at hS|simp only [Da] at hS|simp only [Db] at hS|skip))
      refine ⟨fun h=>absurd (by decide) h,?_⟩
      refine AL ?_
      go_step
      refine Ab 12 ?_
      refine Ab 13 ?_
      refine Ab 14 ?_
      refine AE AA ?_ _
     rotate_right 1
     focus
      refine iG ?_;clear hS;intro g31 w hS
      refine BL [3,10] AA (by simp) (.cons Ar AA ?_ (.cons Ar AA ?_ (.nil)))
      rotate_left 1
      focus
       refine gX ?_;clear hS;intro g39 w hS
       refine At 3 ?_
       (refine A7 (o:=⟨some 32,_,_,_,_,_⟩) hS _ _ 88 rfl 35 1 24 Us _ _ _ _ rfl AK _ rfl _ _ (by (first|exact hS.slBlk AK (by rfl) (by decide)|exact hS.sl AK|with_reducible assumption|exact Sl.ext (by with_reducible assumption) hS.1|exact Sl.nil _ _|exact Sl.ext (by assumption) hS.1|assumption)) (by (first|exact Cd rfl|exact CE _ _|(intro u hu;cases hu))) (by unfold maxLen;omega) (by omega) ?_;clear hS;intro ad32 c32 w hS;(first|simp only [DX] at hS|simp only [DY] at hS|simp only [DZ] at hS|simp only [Da] at hS|simp only [Db] at hS|skip))
       refine ⟨fun _ _=>hS.sub AV,?_⟩
       refine AL ?_
       go_step
       refine At 11 ?_
       (refine A7 (o:=⟨some 40,_,_,_,_,_⟩) hS _ _ 30 rfl 3 1 8 Mb _ _ _ _ rfl AK _ rfl _ _ (by (first|exact hS.slBlk AK (by rfl) (by decide)|exact hS.sl AK|with_reducible assumption|exact Sl.ext (by with_reducible assumption) hS.1|exact Sl.nil _ _|exact Sl.ext (by assumption) hS.1|assumption)) (by (first|exact Cd rfl|exact CE _ _|(intro u hu;cases hu))) (by unfold maxLen;omega) (by omega) ?_;clear hS;intro ad40 c40 w hS;(first|simp only [DX] at hS|simp only [DY] at hS|simp only [DZ] at hS|simp only [Da] at hS|simp only [Db] at hS|skip))
       refine ⟨fun h=>absurd (by decide) h,?_⟩
       refine AL ?_
       go_step
       refine Ab 12 ?_
       refine Ab 13 ?_
       refine Ab 14 ?_
       refine AE AA ?_ _
      rotate_right 1
      focus
       (refine A7 (o:=⟨some 32,_,_,_,_,_⟩) hS _ _ 88 rfl 35 1 24 Us _ _ _ _ rfl AK _ rfl _ _ (by (first|exact hS.slBlk AK (by rfl) (by decide)|exact hS.sl AK|with_reducible assumption|exact Sl.ext (by with_reducible assumption) hS.1|exact Sl.nil _ _|exact Sl.ext (by assumption) hS.1|assumption)) (by (first|exact Cd rfl|exact CE _ _|(intro u hu;cases hu))) (by unfold maxLen;omega) (by omega) ?_;clear hS;intro ad32 c32 w hS;(first|simp only [DX] at hS|simp only [DY] at hS|simp only [DZ] at hS|simp only [Da] at hS|simp only [Db] at hS|skip))
       refine ⟨fun _ _=>hS.sub AV,?_⟩
       refine AL ?_
       go_step
       refine At 10 ?_
       refine gX ?_;clear hS;intro g39 w hS
       refine At 11 ?_
       (refine A7 (o:=⟨some 40,_,_,_,_,_⟩) hS _ _ 30 rfl 3 1 8 Mb _ _ _ _ rfl AK _ rfl _ _ (by (first|exact hS.slBlk AK (by rfl) (by decide)|exact hS.sl AK|with_reducible assumption|exact Sl.ext (by with_reducible assumption) hS.1|exact Sl.nil _ _|exact Sl.ext (by assumption) hS.1|assumption)) (by (first|exact Cd rfl|exact CE _ _|(intro u hu;cases hu))) (by unfold maxLen;omega) (by omega) ?_;clear hS;intro ad40 c40 w hS;(first|simp only [DX] at hS|simp only [DY] at hS|simp only [DZ] at hS|simp only [Da] at hS|simp only [Db] at hS|skip))
       refine ⟨fun h=>absurd (by decide) h,?_⟩
       refine AL ?_
       go_step
       refine Ab 12 ?_
       refine Ab 13 ?_
       refine Ab 14 ?_
       refine AE AA ?_ _
    all_goals
     repeat' (first
      | (refine AP 14 ?_);(refine Ag (.int _ (((i+2:Nat):Int))) (V.as (V.addI rfl rfl (by omega)) (by omega)) (by kernel_rfl) ?_;go_step)|refine X0 ?_|refine AH ?_;go_step|fail)
     subst hlp
     have h2:=(hS.sub (xs:=[star (pcs.map Pc.res),own 5 1 ap p.length cp (p.map (Value.int .u8)),own 35 1 ad32 (lo+1) c32 (pcs.map Pc.val++[.slice ap p.length cp]),own 3 1 ad40 (lm+1) c40 ((m++[y]).map (Value.int .i64))]) AV).starPut AU.head
     go_roundg (gk-2)
     case measure=>omega
     case rel=>
      refine ⟨i+2,lo+1,lm+1,0,pcs++[⟨ap,cp,p⟩],m++[y],[],_,_,_,_,_,_,by omega,by simp;omega,by simp;omega,rfl,by omega,by omega,by omega,rfl,rfl,rfl,by go_num,by rw [List.map_append];exact HT.out,?_⟩
      rw [show (pcs++[(⟨ap,cp,p⟩:Pc)]).map Pc.val=pcs.map Pc.val++[.slice ap p.length cp] by rw [List.map_append];rfl,show (pcs++[(⟨ap,cp,p⟩:Pc)]).map Pc.res=pcs.map Pc.res++[own 5 1 ap p.length cp (p.map (Value.int .u8))] by rw [List.map_append];rfl]
      exact (h2.nilk 5 1 .u8).sub AV
   rw [eI xs i _ _ _ (by omega) hx] at hT
   have HT:=AD hT
   obtain ⟨x,hxx⟩:∃x,AJ xs i=x:=⟨_,rfl⟩
   rw [hxx] at HT hc0 hx
   clear hT hxx
   repeat' (first
    | refine X1 ?_|refine Zt 11 ?_|refine X5 12 ?_|refine AH ?_;go_step|fail)
   repeat' (first
    | refine X0 ?_|refine WQ 17 ?_|refine KT 19 ?_|refine WQ 23 ?_|refine Yr ?_|refine WC 25 ?_;clear hS;intro g25 w hS|refine Zm 26 ?_;clear hS;intro ad26 c26 w hS|refine AH ?_;go_step|fail)
   repeat' (first
    | refine dZ 14 ?_|refine X8 ?_|refine AH ?_;go_step|fail)
   go_roundg (gk-1)
   case measure=>omega
   case rel=>exact ⟨i+1,lo,lm,lp+1,pcs,m,p++[x],_,_,_,_,_,_,by omega,hlo,hlm,by simp;omega,by omega,by omega,by omega,rfl,rfl,rfl,by go_num,HT.out,hS.sub AV⟩
  rw [bK xs i _ _ _ (by omega)] at hT
  have HT:=AD hT
  clear hT
  repeat' (first
   | refine X1 ?_|refine Zt 11 ?_|refine X5 12 ?_|refine AH ?_;go_step|fail)
  repeat' (first
   | refine X0 ?_|(refine AP 64 ?_);(refine Ad ?_;apply AT (o:=⟨some 64,_,_,_,_,_⟩) hS 88 1 _ rfl 35 1 24 Us _ _;(case hvs=>(repeat (first|exact AW.nil|(apply AW.agg;(rfl);(rfl))|(apply AW.one;exact CC;(rfl);(rfl)))));(case hn=>rfl);(case hn0=>decide);(case hns=>decide);clear hS;intro g64 w hS;refine AC ?_;go_step)|(refine AP 65 ?_);(refine Ad ?_;apply A7 (o:=⟨some 65,_,_,_,_,_⟩) hS _ _ 88 rfl 35 1 24 Us _ _ _ _ rfl;(case hp=>exact AK);(case hx=>exact rfl);(case hm=>(first|exact hS.slBlk AK (by rfl) (by decide)|exact hS.sl AK|with_reducible assumption|exact Sl.ext (by with_reducible assumption) hS.1|exact Sl.nil _ _|exact Sl.ext (by assumption) hS.1|assumption));(case h1=>(first|exact Cd rfl|exact CE _ _|(intro u hu;cases hu)));(case h63=>unfold maxLen;omega);(case hb=>omega);clear hS;intro ad65 c65 w hS;(first|simp only [DX] at hS|simp only [DY] at hS|simp only [DZ] at hS|simp only [Da] at hS|simp only [Db] at hS|skip);refine AC ?_;go_step)|refine AH ?_;go_step|fail)
  refine AM (xs:=[_,_,_]) rfl (.cons (AB.tmp rfl) (.cons (AB.tmp rfl) (.cons (AB.tmp rfl) (.nil)))) (by simp) rfl ?_
  subst hlp
  refine ⟨fun h=>(by rw [←HT.out] at h;cases h),fun ps ms h=>?_⟩
  rw [←HT.out] at h
  cases h
  have h2:=(hS.sub (xs:=[star (pcs.map Pc.res),own 5 1 ap p.length cp (p.map (Value.int .u8)),own 35 1 ad65 (lo+1) c65 (pcs.map Pc.val++[.slice ap p.length cp]),own 3 1 am lm cm (m.map (Value.int .i64))]) AV).starPut AU.head
  refine ⟨pcs++[⟨ap,cp,p⟩],_,_,_,_,_,_,by simp;omega,hlm,by simp,rfl,?_⟩
  rw [show (pcs++[(⟨ap,cp,p⟩:Pc)]).map Pc.val=pcs.map Pc.val++[.slice ap p.length cp] by rw [List.map_append];rfl,show (pcs++[(⟨ap,cp,p⟩:Pc)]).map Pc.res=pcs.map Pc.res++[own 5 1 ap p.length cp (p.map (Value.int .u8))] by rw [List.map_append];rfl]
  exact h2.sub AV
theorem Kp:Dv []=[]:=rfl
theorem D6(x:Int)(l:List Int):Dv (x::l)=(if x=255 then [255,0] else [x])++Dv l:=by simp [Dv,H6]
theorem Ko:∀(a b:List Int),Dv a=Dv b→a=b
 | [],[],_=>rfl
 | [],y::b,h=>by rw [Kp,D6] at h;split at h<;>simp at h
 | x::a,[],h=>by rw [Kp,D6] at h;split at h<;>simp at h
 | x::a,y::b,h=>by
   rw [D6,D6] at h
   by_cases hx:x=255
   ·by_cases hy:y=255
    ·rw [if_pos hx,if_pos hy] at h
     simp only [List.cons_append,List.nil_append,List.cons.injEq,true_and] at h
     rw [hx,hy,Ko a b h]
    rw [if_pos hx,if_neg hy] at h
    simp only [List.cons_append,List.nil_append,List.cons.injEq] at h
    exact absurd h.1.symm hy
   by_cases hy:y=255
   ·rw [if_neg hx,if_pos hy] at h
    simp only [List.cons_append,List.nil_append,List.cons.injEq] at h
    exact absurd h.1 hx
   rw [if_neg hx,if_neg hy] at h
   simp only [List.cons_append,List.nil_append,List.cons.injEq] at h
   rw [h.1,Ko a b h.2]
theorem I0:∀(c:List Int)(o:List (List Int))(m p:List Int),D9 (Dv c) o m p=some (o++[p++Dv c],m)
 | [],o,m,p=>by rw [Kp,D9,List.append_nil]
 | x::c,o,m,p=>by
   rw [D6]
   by_cases h:x=255
   ·subst h
    rw [if_pos rfl,D9.eq_def]
    simp only [List.cons_append,List.nil_append,if_true]
    rw [if_neg (by decide),I0 c]
    simp
   rw [if_neg h,D9.eq_def]
   simp only [List.cons_append,List.nil_append]
   rw [if_neg h,I0 c]
   simp
theorem Iz:∀(k:Nat)(b:List Int)(o:List (List Int))(m p:List Int)(ps:List (List Int))(ms:List Int),b.length≤k→D9 b o m p=some (ps,ms)→
 ∃(q:List Int) (r:List (Int×List Int)),ps=o++((p++q)::r.map (·.2))∧ms=m++r.map (·.1)∧b=q++r.flatMap (fun y=>255::y.1::y.2)∧(∃c,q=Dv c)∧∀y∈r,y.1≠0∧y.1≠255∧∃c,y.2=Dv c
 | k,[],o,m,p,ps,ms,hk,h=>by
   rw [D9] at h
   cases h
   exact ⟨[],[],by simp,by simp,by simp,⟨[],rfl⟩,fun y hy=>by cases hy⟩
 | 0,x::b,o,m,p,ps,ms,hk,h=>by simp at hk
 | k+1,x::b,o,m,p,ps,ms,hk,h=>by
   rw [D9.eq_def] at h
   dsimp only at h
   by_cases hx:x=255
   ·rw [if_pos hx] at h
    cases b with
    | nil=>cases h
    | cons y b=>
      dsimp only at h
      by_cases h1:y=255
      ·rw [if_pos h1] at h;cases h
      rw [if_neg h1] at h
      by_cases h2:y=0
      ·rw [if_pos h2] at h
       obtain ⟨q,r,e1,e2,e3,⟨c,e4⟩,e5⟩:=Iz k b _ _ _ _ _ (by simp at hk;omega) h
       refine ⟨255::0::q,r,by rw [e1];simp,e2,by rw [hx,h2,e3];simp,⟨255::c,by rw [D6,if_pos rfl,e4];rfl⟩,e5⟩
      rw [if_neg h2] at h
      obtain ⟨q,r,e1,e2,e3,e4,e5⟩:=Iz k b _ _ _ _ _ (by simp at hk;omega) h
      refine ⟨[],(y,q)::r,by rw [e1];simp,by rw [e2];simp,by rw [hx,e3];simp,⟨[],rfl⟩,fun z hz=>?_⟩
      rcases List.mem_cons.1 hz with rfl|hz
      ·exact ⟨h2,h1,e4⟩
      exact e5 z hz
   rw [if_neg hx] at h
   obtain ⟨q,r,e1,e2,e3,⟨c,e4⟩,e5⟩:=Iz k b _ _ _ _ _ (by simp at hk;omega) h
   exact ⟨x::q,r,by rw [e1];simp,e2,by rw [e3];simp,⟨x::c,by rw [D6,if_neg hx,e4];rfl⟩,e5⟩
theorem VX{b:List Int}{ps:List (List Int)}(h:D9 b [] [] []=some (ps,[])):∃c,b=Dv c:=by
 obtain ⟨q,r,e1,e2,e3,⟨c,e4⟩,e5⟩:=Iz b.length b _ _ _ _ _ (Nat.le_refl _) h
 have hr:r=[]:=by
  have:=congrArg List.length e2
  simp at this
  exact List.eq_nil_of_length_eq_zero (by omega)
 subst hr
 exact ⟨c,by rw [e3,e4];simp⟩
theorem Sm{x:Int}(hx:0≤x∧x<256)(h:x≠255):((255:UInt8)==UInt8.ofNat x.toNat)=false:=by
 rw [beq_eq_false_iff_ne]
 intro e
 have:=congrArg UInt8.toNat e
 simp at this
 omega
theorem dw:∀(p T:List Int),(∀x∈p,0≤x∧x<256)→(255:Int)∉p→Lib.index (Lib.bytesOf (p++255::0::T)) (Lib.bytesOf [255,0])=(p.length:Nat)
 | [],T,_,_=>by
   simp only [List.nil_append,Lib.bytesOf,List.map_cons,List.map_nil]
   unfold Lib.index
   rw [if_pos (by simp [List.isPrefixOf])]
   rfl
 | x::p,T,h,hn=>by
   have ih:=dw p T (fun y hy=>h y (by simp [hy])) (fun e=>hn (by simp [e]))
   have hx:x≠255:=fun e=>hn (by simp [e])
   have hb:=Sm (h x (by simp)) hx
   simp only [List.cons_append,Lib.bytesOf,List.map_cons,List.map_nil] at ih⊢
   unfold Lib.index
   rw [if_neg,ih,if_neg]
   ·simp
   ·simp
   simp only [List.isPrefixOf]
   have:(UInt8.ofNat (Int.toNat 255)==UInt8.ofNat x.toNat)=false:=hb
   rw [this];simp
theorem TN:∀(p:List Int),(∀x∈p,0≤x∧x<256)→(255:Int)∉p→Lib.index (Lib.bytesOf p) (Lib.bytesOf [255,0])= -1
 | [],_,_=>rfl
 | x::p,h,hn=>by
   have ih:=TN p (fun y hy=>h y (by simp [hy])) (fun e=>hn (by simp [e]))
   have hx:x≠255:=fun e=>hn (by simp [e])
   have hb:=Sm (h x (by simp)) hx
   simp only [Lib.bytesOf,List.map_cons,List.map_nil] at ih⊢
   unfold Lib.index
   rw [if_neg,ih]
   ·rfl
   simp only [List.isPrefixOf]
   have:(UInt8.ofNat (Int.toNat 255)==UInt8.ofNat x.toNat)=false:=hb
   rw [this];simp
theorem ff:∀(ps:List (List Int))(last:List Int)(f:Nat),(∀p∈ps,(∀x∈p,0≤x∧x<256)∧(255:Int)∉p)→(∀x∈last,0≤x∧x<256)→(255:Int)∉last→ps.length<f→
 Lib.countFrom (Lib.bytesOf [255,0]) f (Lib.bytesOf (ps.flatMap (· ++[255,0])++last))=ps.length
 | _,_,0,_,_,_,hf=>by omega
 | [],last,f+1,_,h1,h2,_=>by
   simp only [List.flatMap_nil,List.nil_append]
   rw [Lib.countFrom,TN last h1 h2];rfl
 | p::ps,last,f+1,h,h1,h2,hf=>by
   obtain ⟨k1,k2⟩:=h p (by simp)
   have e:(p::ps).flatMap (· ++[255,0])++last=p++255::0::(ps.flatMap (· ++[255,0])++last):=by simp
   have e2:(Lib.bytesOf (p++255::0::(ps.flatMap (· ++[255,0])++last))).drop (((p.length:Nat):Int).toNat+(Lib.bytesOf [255,0]).length)=Lib.bytesOf (ps.flatMap (· ++[255,0])++last):=by
    have e0:p.length+2=(Lib.bytesOf (p++[255,0])).length:=by simp [Lib.bytesOf]
    have e3:p++255::0::(ps.flatMap (· ++[255,0])++last)=(p++[255,0])++(ps.flatMap (· ++[255,0])++last):=by simp
    have e4:∀a b:List Int,Lib.bytesOf (a++b)=Lib.bytesOf a++Lib.bytesOf b:=fun a b=>by simp [Lib.bytesOf]
    rw [Int.toNat_natCast,show (Lib.bytesOf [255,0]).length=2 from rfl,e0,e3,e4 (p++[255,0]),List.drop_left' rfl]
   rw [e,Lib.countFrom,dw p _ k1 k2,e2,if_neg (by simp),ff ps last f (fun q hq=>h q (by simp [hq])) h1 h2 (by simp at hf;omega),List.length_cons]
   omega
theorem bG(b:Int):∀(l:List Int),(∀x∈l,0≤x∧x<256)→(∀p∈(G4 b l).1,∀x∈p,0≤x∧x<256)∧(∀x∈(G4 b l).2,0≤x∧x<256)∧b∉(G4 b l).2:=by
 intro l h
 obtain ⟨h1,_,h3,h4⟩:=Iy b [] l
 have hm:∀p∈(G4 b l).1,∀x∈p,x∈l:=fun p hp x hx=>by
  rw [←h1];exact List.mem_append_left _ (List.mem_flatMap.2 ⟨p,hp,List.mem_append_left _ hx⟩)
 refine ⟨fun p hp x hx=>h x (hm p hp x hx),fun x hx=>h x (by rw [←h1];exact List.mem_append_right _ hx),fun hb=>?_⟩
 have hc:=congrArg (List.count b) h1
 rw [List.count_append] at hc
 have e:∀ps:List (List Int),(∀p∈ps,b∉p)→(ps.flatMap (· ++[b])).count b=ps.length:=by
  intro ps
  induction ps with
  | nil=>intro _;rfl
  | cons p ps ih=>
    intro hp
    rw [List.flatMap_cons,List.count_append,List.count_append,ih fun q hq=>hp q (by simp [hq]),List.count_eq_zero.2 (hp p (by simp)),List.length_cons]
    simp;omega
 rw [e _ h4,h3] at hc
 have:=List.count_pos_iff.2 hb
 omega
theorem NA{w w':World}(h:∃q,w'=w.drewN q):Af w w':=by obtain ⟨q,rfl⟩:=h;exact (Af.refl w).drewN
theorem PR{w:World}{a:Addr}{n c k:Nat}{xs:List Int}(hv:Sl w 1 (.slice (some a) n c) n (xs.map (Value.int .u8))):n≤c∧c≤9223372036854775807:=by
 obtain ⟨_,_,_,e,h1,h2,_⟩:=hv
 cases e
 unfold maxLen at h2
 exact ⟨h1,h2⟩
theorem Qo(w0:World)(a:Option Addr)(g1 g2:Nat)(n c:Nat)(xs cc:List Int)(hs:Sl w0 1 (.slice a n c) n (xs.map (Value.int .u8)))(hnil:a=none→c=0)(he:xs=Dv cc)
 (ho:Sl w0 1 (.slice (some ⟨g1,0,none⟩) 2 2) 2 (([255,0]:List Int).map (Value.int .u8))) (hw:Sl w0 1 (.slice (some ⟨g2,0,none⟩) 1 1) 1 (([255]:List Int).map (Value.int .u8)))
 (hx:∀x∈xs,0≤x∧x<256) (hb1:n≤1000000000) (hml:∃m,w0.cell? ⟨0,0,none⟩=some (.int .i64 m)):
 Calls Tryz.prog 119 #[.slice a n c, .slice (some ⟨g1,0,none⟩) 2 2, .slice (some ⟨g2,0,none⟩) 1 1] w0 fun e w=>∃(ao:Option Addr) (c':Nat),e= .returned (.slice ao cc.length c')∧St w0 w [own 5 1 ao cc.length c' (cc.map (Value.int .u8))]:=by
 obtain ⟨ml,hml⟩:=hml
 have hxc:∀x∈cc,0≤x∧x<256:=fun x hxm=>by
  by_cases h:x=255
  ·omega
  refine hx x ?_
  rw [he,Dv,H6,List.mem_flatMap]
  exact ⟨x,hxm,by rw [if_neg h];simp⟩
 obtain ⟨h1,h2,h3,h4⟩:=Iy 255 [255,0] cc
 obtain ⟨r1,r2,r3⟩:=bG 255 cc hxc
 obtain ⟨ps,hps⟩:∃ps,(G4 255 cc).1=ps:=⟨_,rfl⟩
 obtain ⟨last,hlast⟩:∃l,(G4 255 cc).2=l:=⟨_,rfl⟩
 rw [hps,hlast] at h1 h2
 rw [hps] at h3 h4 r1
 rw [hlast] at r2 r3
 have h2':ps.flatMap (· ++[255,0])++last=xs:=by rw [he];exact h2
 have h5:=h2'
 rw [←Te] at h1 h2'
 have hln:xs.length=n:=by have:=hs.1;simpa using this
 have hadd:∀(g i:Nat),((⟨g,0,none⟩:Addr).add i)=⟨g,0+i,none⟩:=fun g i=>Addr.add_mid ..
 have hmem:∀k (h:k<ps.length),∃T,xs.drop (pre [255,0] ps k).length=ps[k]++255::0::T:=fun k h=>by
  obtain ⟨T,hT⟩:=Jd [255,0] ps k ps.length rfl h
  refine ⟨T++last,?_⟩
  rw [←h2',hT,List.append_assoc,List.drop_left' rfl]
  simp
 have hpl:ps.length≤n:=by
  have hq:∀qs:List (List Int),qs.length≤(qs.flatMap (· ++[255,0])).length:=fun qs=>by
   induction qs with
   | nil=>exact Nat.le_refl _
   | cons q qs ih=>rw [List.flatMap_cons,List.length_append,List.length_append,List.length_cons,List.length_cons];omega
  have:=hq ps
  have e:=congrArg List.length h5
  rw [List.length_append] at e
  omega
 have HC:B4 (∀w,Af w0 w→Calls Tryz.prog 141 #[.slice a n c, .slice (some ⟨g1,0,none⟩) 2 2] w fun e w'=>e= .returned (.int .i64 (ps.length:Nat))∧Af w w'):=⟨fun w hE=>by
  cases a with
  | none=>
    have hc0:=hnil rfl
    subst hc0
    have hn0:n=0:=by obtain ⟨_,_,_,h1,h2,_⟩:=hs;cases h1;omega
    subst hn0
    have:ps.length=0:=by omega
    rw [this]
    exact (Tryz.bytes_Count_nil (some ⟨g1,0,none⟩) 2 2 w (by decide) (by decide)).mono fun e w' ⟨e1,e2⟩=>⟨e1,e2▸ Af.refl _⟩
  | some a=>
    obtain ⟨c1,c2⟩:=PR (k:=0) (hs.ext hE)
    refine (Tryz.bytes_Count_at a ⟨g1,0,none⟩ n c 2 2 xs [255,0] ml w hln rfl hx (by intro y hy;simp at hy;rcases hy with rfl|rfl<;>omega) (Ge (hs.ext hE)) (Ge (ho.ext hE)) c1 (by omega) (by decide) (by decide) (hE.cell hml)).mono fun e w' ⟨e1,e2⟩=>⟨?_,NA e2⟩
    rw [e1]
    have:Lib.count (Lib.bytesOf xs) (Lib.bytesOf [255,0])=ps.length:=by
     rw [←h5,Lib.count]
     refine ff ps last _ (fun p hp=>⟨r1 p hp,h4 p hp⟩) r2 r3 ?_
     rw [h5];simp [Lib.bytesOf];omega
    rw [this]⟩
 have HI:B4 (∀k (h:k<ps.length) w,Af w0 w→Calls Tryz.prog 142 #[.slice (cutAt a c (pre [255,0] ps k).length 1) (n-(pre [255,0] ps k).length) (c-(pre [255,0] ps k).length), .slice (some ⟨g1,0,none⟩) 2 2] w fun e w'=>e= .returned (.int .i64 (ps[k].length:Nat))∧Af w w'):=⟨fun k h w hE=>by
  obtain ⟨T,hT⟩:=hmem k h
  have hle:(pre [255,0] ps k).length≤n:=by
   have:=OS [255,0] ps k ps.length (by omega)
   have h6:=congrArg List.length h2'
   rw [List.length_append] at h6
   omega
  have hsl:=(hs.ext hE).cutAt (pre [255,0] ps k).length n hle (Nat.le_refl _)
  have h6:((xs.map (Value.int .u8)).drop ((pre [255,0] ps k).length*1)).take ((n-(pre [255,0] ps k).length)*1)=(ps[k]++255::0::T).map (Value.int .u8):=by
   rw [Nat.mul_one,Nat.mul_one,←List.map_drop,←List.map_take,List.take_of_length_le (by rw [List.length_drop];omega),hT]
  rw [h6] at hsl
  have hlen:=hsl.1
  have hrng:∀x∈ps[k]++255::0::T,0≤x∧x<256:=fun x hxm=>hx x (by rw [←hT] at hxm;exact List.mem_of_mem_drop hxm)
  cases hca:cutAt a c (pre [255,0] ps k).length 1 with
  | none=>
    rw [hca] at hsl
    obtain ⟨_,_,_,k1,k2,k3,k4⟩:=hsl
    cases k1
    rcases k4 with k4|⟨_,_,k4,_⟩
    ·simp at hlen;omega
    cases k4
  | some a1=>
    rw [hca] at hsl
    obtain ⟨c1,c2⟩:=PR (k:=0) hsl
    refine (Tryz.bytes_Index_at a1 ⟨g1,0,none⟩ _ _ 2 2 (ps[k]++255::0::T) [255,0] ml w (by simpa using hlen) rfl hrng (by intro y hy;simp at hy;rcases hy with rfl|rfl<;>omega) (Ge hsl) (Ge (ho.ext hE)) c1 (by omega) (by decide) (hE.cell hml)).mono fun e w' ⟨e1,e2⟩=>⟨?_,NA e2⟩
    rw [e1,dw ps[k] T (fun x hxm=>r1 _ (List.getElem_mem h) x hxm) (h4 _ (List.getElem_mem h))]⟩
 have HRp:=J9 w0 a (some ⟨g1,0,none⟩) (some ⟨g2,0,none⟩) n c 2 2 1 1 ps.length ps last [255,0] [255] rfl (h2'.symm▸ hs) ho hw (by decide) hb1 (by decide) (by decide) HC HI
 rw [h1] at HRp
 have HRv:B4 _:=⟨HRp⟩
 have hS:=St.start w0
 clear HC HI HRp hmem h1 h2 h2' h3 h4 h5 hps hlast r1 r2 r3 hx hxc he hpl
 go_enter Tryz.func119,Tryz.ntmps119
 repeat' (first
  | (refine Al 135 ?_);refine Am AA Tryz.call135 (HRv.out) ?_;rintro e w ⟨ao,c',rfl,hS2⟩;replace hS:=hS2;clear hS2;refine AX ?_;go_step|refine X0 ?_|refine AH ?_;go_step|fail)
 go_ret
 exact ⟨ao,c',rfl,hS⟩
theorem Jb(w0:World)(a:Option Addr)(n c:Nat)(xs:List Int)(hs:Sl w0 1 (.slice a n c) n (xs.map (Value.int .u8)))(hnil:a=none→c=0)(hx:∀x∈xs,0≤x∧x<256)(hb1:n≤1000000000)(hml:∃m,w0.cell? ⟨0,0,none⟩=some (.int .i64 m)):
 Calls Tryz.prog 86 #[.slice a n c] w0 fun e w=>(∀cc,xs=Dv cc→∃(ao:Option Addr) (c':Nat),e= .returned (.tuple #[.slice ao cc.length c', .int .i64 0])∧St w0 w [own 5 1 ao cc.length c' (cc.map (Value.int .u8))])∧
  ((∀cc,xs≠Dv cc)→e= .returned (.tuple #[.slice none 0 0, .int .i64 4])∧Af w0 w):=by
 have hS:=St.start w0
 have HSP:=AD (Jk w0 a n c xs hs hx hb1)
 obtain ⟨T,hT⟩:∃T,D9 xs [] [] []=T:=⟨_,rfl⟩
 rw [hT] at HSP
 have HX:B4 (∀x∈xs,0≤x∧x<256):=⟨hx⟩
 have HML:B4 _:=⟨hml⟩
 clear hx hml
 cases T with
 | none=>
   have hno:∀cc,xs≠Dv cc:=fun cc e=>by rw [e,I0] at hT;cases hT
   have HNO:B4 _:=⟨hno⟩
   clear hno hT
   go_enter Tryz.func86,Tryz.ntmps86
   repeat' (first
    | (refine Al 60 ?_);refine Am AA Tryz.call60 (HSP.out) ?_;rintro e w ⟨hR1,-⟩;obtain ⟨rfl,hE⟩:=hR1 rfl;clear hR1;replace hS:=hS.ext hE;clear hE;refine AX ?_;go_step|go_skip|refine X0 ?_|refine IL ?_|refine X9 14 ?_ ?_<;>intro hB<;>(try exact AQ)<;>go_step|refine X6 10 ?_|refine X6 11 ?_|refine X6 12 ?_|refine AH ?_;go_step|fail)
   all_goals
    repeat' (first
     | refine X0 ?_|refine KT 21 ?_|refine AH ?_;go_step|fail)
   all_goals
    refine AM (xs:=[_,_]) rfl (.cons (AB.tmp rfl) (.cons (AB.tmp rfl) (.nil))) (by simp) rfl ?_
    exact ⟨fun cc e=>absurd e (HNO.out cc),fun _=>⟨rfl,hS.1⟩⟩
 | some T=>
   obtain ⟨ps,ms⟩:=T
   by_cases hm:ms=[]
   ·subst hm
    obtain ⟨cc,he⟩:=VX hT
    have HE:=AD he
    clear hT he
    go_enter Tryz.func86,Tryz.ntmps86
    repeat' (first
     | (refine Al 60 ?_);refine Am AA Tryz.call60 (HSP.out) ?_;rintro e w ⟨-,hR1⟩;obtain ⟨pcs,ao,am,co,cm,lo,lm,hlo,hlm,-,rfl,hS2⟩:=hR1 ps [] rfl;clear hR1;rw [List.length_nil] at hlm;subst hlm;replace hS:=hS.call hS2;clear hS2;simp only [List.cons_append,List.nil_append] at hS;refine AX ?_;go_step|refine X0 ?_|refine Eu ?_|refine X9 14 ?_ ?_<;>intro hB<;>(try exact AQ)<;>go_step|refine X6 10 ?_|refine X6 11 ?_|refine X6 12 ?_|refine Vy 17 ?_|refine Nt 18 ?_|refine AH ?_;go_step|fail)
    all_goals
     repeat' (first
      | refine X1 ?_|refine KT 21 ?_|refine AH ?_;go_step|fail)
    all_goals
     repeat' (first
      | (refine Al 119 ?_);refine Am AA Tryz.call119 (Qo _ a _ _ n c xs cc (hs.ext hS.1) hnil HE.out (hS.slBlk (n:=2) (cs:=[.int .u8 255, .int .u8 0]) AK (by rfl) (by decide)) (hS.slBlk (n:=1) (cs:=[.int .u8 255]) AK (by rfl) (by decide)) HX.out hb1 (HML.out.imp fun m h=>hS.1.cell h)) ?_;rintro e w ⟨ao,c',rfl,hS2⟩;replace hS:=hS.call1 hS2;clear hS2;refine AX ?_;go_step|refine X8 ?_|refine ec 24 ?_;clear hS;intro g24 w hS|refine WC 25 ?_;clear hS;intro g25 w hS|refine AH ?_;go_step|fail)
    all_goals
     refine AM (xs:=[_,_]) rfl (.cons (AB.tmp rfl) (.cons (AB.tmp rfl) (.nil))) (by simp) rfl ?_
     refine ⟨fun cc2 e=>?_,fun h=>absurd HE.out (h cc)⟩
     obtain rfl:=Ko _ _ (HE.out.symm.trans e)
     exact ⟨_,_,rfl,hS.sub AV⟩
   have hno:∀cc,xs≠Dv cc:=fun cc e=>by rw [e,I0] at hT;cases hT;exact hm rfl
   have HNO:B4 _:=⟨hno⟩
   have hml2:0<ms.length:=List.length_pos_iff.2 hm
   clear hno hT hm
   go_enter Tryz.func86,Tryz.ntmps86
   repeat' (first
    | (refine Al 60 ?_);refine Am AA Tryz.call60 (HSP.out) ?_;rintro e w ⟨-,hR1⟩;obtain ⟨pcs,ao,am,co,cm,lo,lm,hlo,hlm,-,rfl,hS2⟩:=hR1 ps ms rfl;clear hR1;replace hS:=hS.call hS2;clear hS2;simp only [List.cons_append,List.nil_append] at hS;refine AX ?_;go_step|refine X0 ?_|refine Eu ?_|refine X9 14 ?_ ?_<;>intro hB<;>(try exact AQ)<;>go_step|refine X6 10 ?_|refine X6 11 ?_|refine X6 12 ?_|refine Vy 17 ?_|refine Nt 18 ?_|refine AH ?_;go_step|fail)
   all_goals
    repeat' (first
     | refine X0 ?_|refine KT 21 ?_|refine AH ?_;go_step|fail)
   all_goals
    refine AM (xs:=[_,_]) rfl (.cons (AB.tmp rfl) (.cons (AB.tmp rfl) (.nil))) (by simp) rfl ?_
    exact ⟨fun cc e=>absurd e (HNO.out cc),fun _=>⟨rfl,hS.1⟩⟩
def Bc(L1 L2:List (Int×Nat×Nat))(x:CO×Bool):List Bool:=wb (if x.2 then L1 else L2) x.1.1++Ax x.1.2.1.toNat x.1.2.2.toNat
def BT(L1 L2:List (Int×Nat×Nat))(bs:List Bool)(t:CO)(b:Bool):Int×List Bool:=if (symW (if b then L1 else L2) t.1).isSome then (0,bs++Bc L1 L2 (t,b)) else (5,bs)
theorem JW(W w0:World)(rs rs':List Aq)(g g1 g2:Nat)(b:Bool)(hS:St W w0 rs)(hp:AU (blk g [.pointer (some ⟨g1,0,none⟩), .pointer (some ⟨g2,0,none⟩)]) rs rs'):
 Calls Tryz.prog 109 #[.pointer (some ⟨g,0,none⟩), .bool b] w0 fun e w=>e= .returned (.pointer (some ⟨if b then g1 else g2,0,none⟩))∧Af w0 w:=by
 have h0:=St.start w0
 have hc:=(hS.blk hp).1
 have c0:w0.cell? ⟨g,0,none⟩=some (.pointer (some ⟨g1,0,none⟩)):=by rw [hc.cell];rfl
 have c1:w0.cell? ⟨g,1,none⟩=some (.pointer (some ⟨g2,0,none⟩)):=by rw [hc.cell];rfl
 clear hS hc hp
 have hS:=h0
 clear h0
 cases b
 ·go_enter Tryz.func109,Tryz.ntmps109
  repeat' (first
   | refine X0 ?_|refine AH ?_;go_step|fail)
  repeat' (first
   | refine X8 ?_|refine UR ?_|(with_reducible refine Ak _ (.fieldAddr 181 _ 1) ?_);(refine Ap AA (V.fieldAddr aJ rfl BK) ?_;go_step)|refine fQ ?_|refine AH ?_;go_step|fail)
  all_goals (go_ret;exact ⟨rfl,hS.1⟩)
 go_enter Tryz.func109,Tryz.ntmps109
 repeat' (first
  | refine X0 ?_|refine UR ?_|(with_reducible refine Ak _ (.fieldAddr 181 _ 0) ?_);(refine Ap AA (V.fieldAddr aI rfl BK) ?_;go_step)|refine fQ ?_|refine AH ?_;go_step|fail)
 all_goals (go_ret;exact ⟨rfl,hS.1⟩)
def Ut(g6 g8 gc gw:Nat)(L1 L2:List (Int×Nat×Nat))(bs:List Bool):Aq:=star [blk g6 [.pointer (some ⟨gc,0,none⟩)],blk g8 [.pointer (some ⟨gw,0,none⟩)],b6 gc L1 L2,wr gw bs]
theorem RV(W w0:World)(rs rs':List Aq)(g6 g8 gc gw:Nat)(L1 L2:List (Int×Nat×Nat))(bs:List Bool)(t0 t1 t2:Int)(b:Bool)(hL1:Cs L1)(hL2:Cs L2)(hS:St W w0 rs)(hp:AU (Ut g6 g8 gc gw L1 L2 bs) rs rs')(hb:bs.length≤1000000000)(ht:Rv (t0,t1,t2)):
 Calls Tryz.prog 108 #[.agg #[.int .i64 t0, .int .i64 t1, .int .i64 t2], .bool b, .pointer (some ⟨g6,0,none⟩), .pointer (some ⟨g8,0,none⟩)] w0 fun e w=>e= .returned (.int .i64 (BT L1 L2 bs (t0,t1,t2) b).1)∧St W w (Ut g6 g8 gc gw L1 L2 (BT L1 L2 bs (t0,t1,t2) b).2::rs'):=by
 obtain ⟨_,hS⟩:=(hS.pull hp).open
 obtain ⟨⟨g1,g2⟩,hS⟩:=(hS.pull (.tail (.tail .head))).open
 replace hS:St W w0 (blk gc [.pointer (some ⟨g1,0,none⟩), .pointer (some ⟨g2,0,none⟩)]::LC g1 L1::LC g2 L2::blk g6 [.pointer (some ⟨gc,0,none⟩)]::blk g8 [.pointer (some ⟨gw,0,none⟩)]::wr gw bs::rs'):=hS
 clear hp
 obtain ⟨h1,h2,h3,h4⟩:=ht
 dsimp only at h1 h2 h3 h4
 obtain ⟨k,rfl⟩:∃k:Nat,t1=(k:Int):=⟨t1.toNat,by omega⟩
 obtain ⟨v,rfl⟩:∃v:Nat,t2=(v:Int):=⟨t2.toNat,by omega⟩
 have hv:v<2^k:=by rw [Int.toNat_natCast] at h4;exact_mod_cast h4
 clear h4 h3
 obtain ⟨L,hL⟩:∃L,(if b then L1 else L2)=L:=⟨_,rfl⟩
 obtain ⟨gb,hgb⟩:∃x,(if b then g1 else g2)=x:=⟨_,rfl⟩
 have hGL:Cs L:=by rw [←hL];cases b<;>assumption
 have HL:=AD hL
 have HGB:=AD hgb
 have HLen:=AD (Oy hGL t0)
 obtain ⟨r2,hS2,hC⟩:∃r2,St W w0 (LC gb L::r2::blk gc [.pointer (some ⟨g1,0,none⟩), .pointer (some ⟨g2,0,none⟩)]::blk g6 [.pointer (some ⟨gc,0,none⟩)]::blk g8 [.pointer (some ⟨gw,0,none⟩)]::wr gw bs::rs')∧∀w rs,St W w (LC gb L::r2::blk gc [.pointer (some ⟨g1,0,none⟩), .pointer (some ⟨g2,0,none⟩)]::rs)→St W w (b6 gc L1 L2::rs):=by
  cases b
  ·obtain rfl:L2=L:=by simpa using hL
   obtain rfl:g2=gb:=by simpa using hgb
   refine ⟨LC g1 L1,hS.sub AV,fun w rs h=>St.close (g1,g2) ?_⟩
   dsimp only [List.cons_append,List.nil_append]
   exact h.sub AV
  obtain rfl:L1=L:=by simpa using hL
  obtain rfl:g1=gb:=by simpa using hgb
  refine ⟨LC g2 L2,hS.sub AV,fun w rs h=>St.close (g1,g2) ?_⟩
  dsimp only [List.cons_append,List.nil_append]
  exact h.sub AV
 clear hS hL hgb
 have hS:=hS2
 have HC:=AD hC
 clear hS2 hC
 obtain ⟨I,hI⟩:∃I,(symW L t0).isSome=I:=⟨_,rfl⟩
 have HI:=AD hI
 cases I
 ·have HR:=AD (show BT L1 L2 bs (t0,(k:Int),(v:Int)) b=(5,bs) by unfold BT;dsimp only;rw [HL.out,hI];rfl)
  clear hI
  go_enter Tryz.func108,Tryz.ntmps108
  repeat' (first
   | refine X8 ?_|refine ZK 4 ?_;clear hS;intro g4 w hS|refine AH ?_;go_step|fail)
  refine AR [6] (fun w=>St W w [blk g6 [.pointer (some ⟨gc,0,none⟩)],blk g8 [.pointer (some ⟨gw,0,none⟩)],blk g4 [.int .i64 t0, .int .i64 (k:Nat), .int .i64 (v:Nat)]]) AA ?_
  replace hS:=hS.drew
  focus
   refine ep 0 [2,6,7] ?_
   refine Ab 1 ?_
   refine iH 3 [6,7] ?_
   refine BX 4 BU (V.fieldAddr Kg rfl BK) ?_;go_step
   refine Y5 5 [6,7] ?_
   refine At 2 ?_
   refine AY (f:=109) rfl Tryz.call109 (JW W _ _ _ gc g1 g2 b hS AK) ?_;rintro e w ⟨rfl,hE⟩;replace hS:=hS.ext hE;clear hE;rw [HGB.out];refine ⟨_,rfl,?_⟩
   refine ⟨fun _ _=>hS.sub AV,?_⟩
   refine AL ?_
   go_step
   refine At 6 ?_
   refine AY (f:=110) rfl Tryz.call110 (LD W _ _ _ _ gb gw L bs t0 hGL hS AK AK (by omega)) ?_;clear hS;rintro e w ⟨rfl,hS⟩;rw [HI.out];refine ⟨_,rfl,?_⟩
   refine ⟨fun h=>absurd (by decide) h,?_⟩
   refine AL ?_
   go_step
   refine BX 7 BU (V.not rfl) ?_;go_step
   refine AE AA ?_ _
  all_goals
   repeat' (first
    | refine X8 ?_|refine AH ?_;go_step|fail)
   go_ret
   rw [HR.out]
   have hwb:wb L t0=[]:=by unfold wb;cases hs:symW L t0 with
    | none=>rfl
    | some y=>have:=HI.out;rw [hs] at this;cases this
   rw [hwb,List.append_nil] at hS
   refine ⟨rfl,St.close () ?_⟩
   dsimp only [List.cons_append,List.nil_append]
   exact (HC.out _ _ (hS.sub (xs:=LC gb L::r2::blk gc [.pointer (some ⟨g1,0,none⟩), .pointer (some ⟨g2,0,none⟩)]::blk g6 [.pointer (some ⟨gc,0,none⟩)]::blk g8 [.pointer (some ⟨gw,0,none⟩)]::wr gw bs::rs') AV)).sub AV
 have HR:=AD (show BT L1 L2 bs (t0,(k:Int),(v:Int)) b=(0,bs++(wb L t0++Ax k v)) by unfold BT Bc;dsimp only;rw [HL.out,hI,Int.toNat_natCast,Int.toNat_natCast];rfl)
 clear hI
 go_enter Tryz.func108,Tryz.ntmps108
 repeat' (first
  | refine X8 ?_|refine ZK 4 ?_;clear hS;intro g4 w hS|refine AH ?_;go_step|fail)
 refine AR [6] (fun w=>St W w [blk g6 [.pointer (some ⟨gc,0,none⟩)],blk g8 [.pointer (some ⟨gw,0,none⟩)],blk g4 [.int .i64 t0, .int .i64 (k:Nat), .int .i64 (v:Nat)]]) AA ?_
 replace hS:=hS.drew
 focus
  refine ep 0 [2,6,7] ?_
  refine Ab 1 ?_
  refine iH 3 [6,7] ?_
  refine BX 4 BU (V.fieldAddr Kg rfl BK) ?_;go_step
  refine Y5 5 [6,7] ?_
  refine At 2 ?_
  refine AY (f:=109) rfl Tryz.call109 (JW W _ _ _ gc g1 g2 b hS AK) ?_;rintro e w ⟨rfl,hE⟩;replace hS:=hS.ext hE;clear hE;rw [HGB.out];refine ⟨_,rfl,?_⟩
  refine ⟨fun _ _=>hS.sub AV,?_⟩
  refine AL ?_
  go_step
  refine At 6 ?_
  refine AY (f:=110) rfl Tryz.call110 (LD W _ _ _ _ gb gw L bs t0 hGL hS AK AK (by omega)) ?_;clear hS;rintro e w ⟨rfl,hS⟩;rw [HI.out];refine ⟨_,rfl,?_⟩
  refine ⟨fun h=>absurd (by decide) h,?_⟩
  refine AL ?_
  go_step
  refine BX 7 BU (V.not rfl) ?_;go_step
  refine AE AA ?_ _
 all_goals
  repeat' (first
   | (refine AP 20 ?_);refine AG (f:=111) Tryz.call111 AA ?_;refine ⟨_,(OU W _ _ _ gw (bs++wb L t0) k v hS AK (by omega) hv (by have:=HLen.out;rw [List.length_append];omega)),?_⟩;clear hS;rintro e w ⟨rfl,hS⟩;refine AX ?_;go_step|refine X8 ?_|refine Sd ?_|refine dS ?_|refine fP ?_|refine ED ?_|refine AH ?_;go_step|fail)
  go_ret
  rw [HR.out]
  refine ⟨rfl,St.close () ?_⟩
  dsimp only [List.cons_append,List.nil_append]
  rw [List.append_assoc] at hS
  exact (HC.out _ _ (hS.sub (xs:=LC gb L::r2::blk gc [.pointer (some ⟨g1,0,none⟩), .pointer (some ⟨g2,0,none⟩)]::blk g6 [.pointer (some ⟨gc,0,none⟩)]::blk g8 [.pointer (some ⟨gw,0,none⟩)]::wr gw (bs++(wb L t0++Ax k v))::rs') AV)).sub AV
theorem MB{L1 L2:List (Int×Nat×Nat)}(h1:Cs L1)(h2:Cs L2)(t:CO)(b:Bool)(ht:Rv t):(Bc L1 L2 (t,b)).length≤28:=by
 obtain ⟨_,h3,_⟩:=ht
 unfold Bc
 dsimp only
 rw [List.length_append,As]
 have h4:(wb (if b then L1 else L2) t.1).length≤16:=Oy (by cases b<;>assumption) _
 omega
theorem G8(L1 L2:List (Int×Nat×Nat))(bs:List Bool)(t:CO)(b:Bool):(BT L1 L2 bs t b).2=bs++Bc L1 L2 (t,b)∨(BT L1 L2 bs t b).2=bs:=by
 unfold BT
 by_cases h:(symW (if b then L1 else L2) t.1).isSome=true
 ·rw [if_pos h];exact .inl rfl
 rw [if_neg h];exact .inr rfl
theorem S8{W w:World}{g6 g8 gc gw:Nat}{L1 L2:List (Int×Nat×Nat)}{rs:List Aq}(h:St W w rs)(s:PB [blk gw [.slice none 0 0, .int .u64 0, .int .i64 0],blk g6 [.pointer (some ⟨gc,0,none⟩)],blk g8 [.pointer (some ⟨gw,0,none⟩)],b6 gc L1 L2] rs):St W w [Ut g6 g8 gc gw L1 L2 []]:=by
 have h2:=eQ (h.sub s)
 refine St.close () ?_
 dsimp only [List.cons_append,List.nil_append]
 exact h2.sub AV
def Ws(W:World)(g6 g8 gc gw:Nat)(L1 L2:List (Int×Nat×Nat))(h1:Cs L1)(h2:Cs L2):eZ W (List Bool) where
 step:=BT L1 L2
 res:=Ut g6 g8 gc gw L1 L2
 ok bs m:=bs.length+28*m≤1000000000
 K:=108
 caps:=#[.pointer (some ⟨g6,0,none⟩), .pointer (some ⟨g8,0,none⟩)]
 inv:=Tryz.call108
 okS s m t b h ht _:=by
  have:=MB h1 h2 t b ht
  rcases G8 L1 L2 s t b with h4|h4
  ·rw [h4,List.length_append];omega
  rw [h4];omega
 okM s m k h hk:=by omega
 call w rs rs' s m t0 t1 t2 b er s' hS hp h ht hst:=by
  have h3:=RV W w rs rs' g6 g8 gc gw L1 L2 s t0 t1 t2 b h1 h2 hS hp (by omega) ht
  rw [hst] at h3
  exact h3
def Ct(C1 S1 C2 S2 l:List Int)(n:Nat):Int:=if EE C1 S1 C2 S2=0 then if Be l n=0 then (Dq (BT (Bw C1 S1) (Bw C2 S2)) (DT l 0 n) []).1 else Be l n else EE C1 S1 C2 S2
def Bv(C1 S1 C2 S2 l:List Int)(n:Nat):List Bool:=(Dq (BT (Bw C1 S1) (Bw C2 S2)) (DT l 0 n) []).2
def GD(l:List Nat):List Int:=l.map fun (x:Nat)=>(x:Int)
theorem Wd(l:List Nat):bv l=(GD l).map (Value.int .u8):=by simp [bv,GD]
def Dj(C1 S1 C2 S2 l:List Int)(n:Nat):List Int:=if Ct C1 S1 C2 S2 l n=0 then Dv (GD (bytesOf (Bv C1 S1 C2 S2 l n))) else []
theorem Wp{σ:Type}(step:σ→CO→Bool→Int×σ)(ok:σ→Nat→Prop)(h1:∀s m t b,ok s (m+1)→Rv t→ok (step s t b).2 m)(hm:∀s m k,ok s m→k≤m→ok s k):∀(T:List (CO×Bool))(s:σ)(m:Nat),(∀x∈T,Rv x.1)→T.length≤m→ok s m→ok (Dq step T s).2 0
 | [],s,m,_,_,h=>hm s m 0 h (by omega)
 | x::r,s,m,ht,hl,h=>by
   rw [List.length_cons] at hl
   have h2:=h1 s (m-1) x.1 x.2 (by rw [show m-1+1=m by omega];exact h) (ht x (by simp))
   rw [Dq]
   split
   ·exact Wp step ok h1 hm r _ (m-1) (fun y hy=>ht y (by simp [hy])) (by omega) h2
   exact hm _ _ 0 h2 (by omega)
theorem I6{l:List Int}{n:Nat}(hl:l.length=n*64):∀(f k:Nat),k+f≤n→(∀x∈DT l k f,Rv x.1)∧(DT l k f).length≤64*f
 | 0,k,_=>⟨fun x hx=>(by cases hx),by simp [DT]⟩
 | f+1,k,h=>by
   obtain ⟨h1,h2⟩:=I6 hl f (k+1) (by omega)
   have hs:(Bp l 64 k).length=64:=CT l 64 k n hl (by omega)
   have h3:∀t∈Vg l k,Rv t:=Qj hs
   have h4:(Vg l k).length≤64:=Om hs
   refine ⟨fun x hx=>?_,by rw [DT,List.length_append,P8];omega⟩
   rw [DT] at hx
   rcases List.mem_append.1 hx with hx|hx
   ·unfold FO at hx
    split at hx
    ·cases hx
    rename_i t r heq
    rcases List.mem_cons.1 hx with rfl|hx
    ·exact h3 t (by rw [heq];simp)
    obtain ⟨y,hy,rfl⟩:=List.mem_map.1 hx
    exact h3 y (by rw [heq];simp [hy])
   exact h1 x hx
theorem KA{C1 S1 C2 S2 l:List Int}{n:Nat}(h1:A4 C1 S1=0)(h2:A4 C2 S2=0)(hl:l.length=n*64)(hn:n≤400):(Bv C1 S1 C2 S2 l n).length≤1000000:=by
 have h3:=Wp (BT (Bw C1 S1) (Bw C2 S2)) (fun bs m=>bs.length+28*m≤1000000) (fun s m t b h ht=>by
  have:=MB (Bu h1) (Bu h2) t b ht
  rcases G8 (Bw C1 S1) (Bw C2 S2) s t b with h4|h4
  ·rw [h4,List.length_append];omega
  rw [h4];omega) (fun s m k h hk=>by omega) (DT l 0 n) [] 25600 (I6 hl n 0 (by omega)).1 (by have:=(I6 hl n 0 (by omega)).2;omega) (by simp)
 unfold Bv
 have h4:(Dq (BT (Bw C1 S1) (Bw C2 S2)) (DT l 0 n) []).2.length+28*0≤1000000:=h3
 omega
theorem dk(bs:List Bool):∀x∈GD (bytesOf bs),0≤x∧x<256:=fun x hx=>by
 obtain ⟨y,hy,rfl⟩:=List.mem_map.1 hx
 have:=EU bs y hy
 omega
theorem IT{l:List Int}{n:Nat}(h:Be l n=0):n≤400:=by
 unfold Be at h
 split at h
 ·cases h
 omega
def RA(w0:World)(E:Int)(B:List Int)(e:Ending)(w:World):Prop:=
 ∃ao c m,B.length=m∧e= .returned (.tuple #[.slice ao m c, .int .i64 E])∧St w0 w [own 5 1 ao m c (B.map (Value.int .u8))]
theorem Ey{w0 w:World}{E:Int}{B:List Int}(E':Int)(h:E=E')(hB:B=[])(hE:Af w0 w):RA w0 E B (.returned (.tuple #[.slice none 0 0, .int .i64 E'])) w:=by
 subst h;subst hB
 exact ⟨none,0,0,rfl,rfl,(St.of_ext hE).nil _ _⟩
theorem Sz(W w0:World)(rs rs':List Aq)(g6 g8 gc gw:Nat)(L1 L2:List (Int×Nat×Nat))(h1:Cs L1)(h2:Cs L2)(ad:Option Addr)(n c:Nat)(l:List Int)(E:Int)(bs:List Bool)(hE:Be l n=0→Dq (BT L1 L2) (DT l 0 n) []=(E,bs))(hE2:Be l n≠0→Be l n=E)(hn:n≤9223372036854775807)(hv:Sl W 64 (.slice ad n c) n (l.map (Value.int .i64)))(hS:St W w0 rs)(hp:AU (Ut g6 g8 gc gw L1 L2 []) rs rs'):
 Calls Tryz.prog 100 #[.slice ad n c, .func (.func 108) #[] #[.pointer (some ⟨g6,0,none⟩), .pointer (some ⟨g8,0,none⟩)]] w0 fun e w=>e= .returned (.int .i64 E)∧∃s',(E=0→s'=bs)∧St W w (Ut g6 g8 gc gw L1 L2 s'::rs'):=by
 refine (Pd (Ws W g6 g8 gc gw L1 L2 h1 h2) w0 rs rs' [] ad n c l hn hv hS hp (by show (0+28*25600≤1000000000);omega)).mono ?_
 rintro e w ⟨s',hs',rfl,hS⟩
 by_cases h0:Be l n=0
 ·have h3:Dq (Ws W g6 g8 gc gw L1 L2 h1 h2).step (DT l 0 n) []=(E,bs):=hE h0
  rw [h3] at hs'⊢
  rw [if_pos h0]
  exact ⟨rfl,s',fun _=>hs' h0,hS⟩
 rw [if_neg h0,hE2 h0]
 exact ⟨rfl,s',fun h=>absurd ((hE2 h0).trans h) h0,hS⟩
theorem Hf(w0:World)(C1 C2 S1 S2:List Int)(a1 a2:Option Addr)(n1 n2 k1 k2:Nat)(hC1:Ac C1 16)(hC2:Ac C2 16)(hs1:Sl w0 1 (.slice a1 n1 k1) n1 (S1.map (Value.int .i64)))(hs2:Sl w0 1 (.slice a2 n2 k2) n2 (S2.map (Value.int .i64)))(hn1:n1≤9223372036854775807)(hn2:n2≤9223372036854775807)(ad:Option Addr)(n c:Nat)(l:List Int)(hn:n≤9223372036854775807)(hv:Sl w0 64 (.slice ad n c) n (l.map (Value.int .i64))):
 Calls Tryz.prog 75 #[.agg (AF [.ints C1, .val (.slice a1 n1 k1), .ints C2, .val (.slice a2 n2 k2)]).toArray, .slice ad n c] w0 (RA w0 (Ct C1 S1 C2 S2 l n) (Dj C1 S1 C2 S2 l n)):=by
 have hl:l.length=n*64:=by have:=hv.1;simpa using this
 have HLl:=AD hl
 have hS:=St.start w0
 by_cases hT:EE C1 S1 C2 S2=0
 case neg=>
  obtain ⟨E,hE⟩:∃E,EE C1 S1 C2 S2=E:=⟨_,rfl⟩
  have h0:E≠0:=by rw [←hE];exact hT
  have HE:=AD hE
  have HR:=AD (show Ct C1 S1 C2 S2 l n=E by unfold Ct;rw [if_neg hT];exact hE)
  have HB:=AD (show Dj C1 S1 C2 S2 l n=[] by unfold Dj;rw [if_neg (by rw [HR.out];exact h0)])
  clear hE hT hl
  go_enter Tryz.func75,Tryz.ntmps75
  repeat' (first
   | (refine AP 11 ?_);refine AG (f:=85) Tryz.call85 AA ?_;refine ⟨_,(P6 _ C1 C2 S1 S2 a1 a2 n1 n2 k1 k2 hC1 hC2 (hs1.ext hS.1) (hs2.ext hS.1) hn1 hn2 E HE.out h0),?_⟩;rintro e w ⟨rfl,hE2⟩;replace hS:=hS.ext hE2;clear hE2;refine AX ?_;go_step|refine X0 ?_|refine X4 ?_|refine X3 ?_|refine PE 2 ?_;clear hS;intro g2 w hS|refine PG ?_|refine cV 6 ?_;clear hS;intro g6 w hS|refine cZ ?_;clear hS;intro w hS|refine AH ?_;go_step|fail)
  all_goals (try exact AQ)
  refine AM (xs:=[_,_]) rfl (.cons (AB.tmp rfl) (.cons (AB.tmp rfl) (.nil))) (by simp) rfl ?_
  exact Ey E HR.out HB.out hS.1
 have hT1:A4 C1 S1=0:=by
  unfold EE at hT
  split at hT
  ·assumption
  assumption
 have hT2:A4 C2 S2=0:=by
  unfold EE at hT
  rw [if_pos hT1] at hT;exact hT
 obtain ⟨⟨E,bs⟩,hech⟩:∃y,(if Be l n=0 then Dq (BT (Bw C1 S1) (Bw C2 S2)) (DT l 0 n) [] else (Be l n,[]))=y:=⟨_,rfl⟩
 have HA:=AD (show Be l n=0→Dq (BT (Bw C1 S1) (Bw C2 S2)) (DT l 0 n) []=(E,bs) from fun h=>by rw [if_pos h] at hech;exact hech)
 have HA2:=AD (show Be l n≠0→Be l n=E from fun h=>by rw [if_neg h] at hech;exact congrArg Prod.fst hech)
 have HR:=AD (show Ct C1 S1 C2 S2 l n=E by
  unfold Ct
  rw [if_pos hT]
  by_cases h0:Be l n=0
  ·rw [if_pos h0,HA.out h0]
  rw [if_neg h0];exact HA2.out h0)
 have HG1:=AD (Bu hT1)
 have HG2:=AD (Bu hT2)
 have HT1:=AD hT1
 have HT2:=AD hT2
 clear hT hech
 by_cases h0:E=0
 case neg=>
  have HB:=AD (show Dj C1 S1 C2 S2 l n=[] by unfold Dj;rw [if_neg (by rw [HR.out];exact h0)])
  clear hl hT1 hT2
  go_enter Tryz.func75,Tryz.ntmps75
  repeat' (first
   | (refine AP 11 ?_);refine AG (f:=85) Tryz.call85 AA ?_;refine ⟨_,(If _ C1 C2 S1 S2 a1 a2 n1 n2 k1 k2 hC1 hC2 (hs1.ext hS.1) (hs2.ext hS.1) hn1 hn2 HT1.out HT2.out),?_⟩;rintro e w ⟨gc,rfl,hS2⟩;replace hS:=hS.call1 hS2;clear hS2;refine AX ?_;go_step|refine X0 ?_|refine X4 ?_|refine X3 ?_|refine PE 2 ?_;clear hS;intro g2 w hS|refine PG ?_|refine cV 6 ?_;clear hS;intro g6 w hS|refine cZ ?_;clear hS;intro w hS|refine AH ?_;go_step|fail)
  all_goals (try exact AQ)
  repeat' (first
   | refine fX 20 ?_|(refine AP 21 ?_);refine AG (f:=100) Tryz.call100 AA ?_;refine ⟨_,(Sz w0 w _ _ g6 g8 gc g18 _ _ HG1.out HG2.out ad n c l E bs HA.out HA2.out hn hv (S8 hS AV) AU.head),?_⟩;clear hS;rintro e w ⟨rfl,s',hs',hS⟩;clear hs';refine AX ?_;go_step|refine X0 ?_|(refine AP 17 ?_);(refine Ap AA (V.build (vs:=[]) rfl (WW)) ?_;go_step)|refine X3 ?_|(refine AP 18 ?_);(refine Ad ?_;apply CL (o:=⟨some 18,_,_,_,_,_⟩) hS 171 _ rfl _ rfl;clear hS;intro g18 w hS;refine AC ?_;go_step)|(refine AP 8 ?_);(refine Ad ?_;apply B9 (o:=⟨some 8,_,_,_,_,_⟩) hS 168 rfl (.pointer none) [.pointer none] (fun w=>Tryz.zeroValue168 w) rfl;clear hS;intro g8 w hS;refine AC ?_;go_step)|refine fJ ?_;clear hS;intro w hS|refine AH ?_;go_step|fail)
  all_goals (try exact AQ)
  refine AM (xs:=[_,_]) rfl (.cons (AB.tmp rfl) (.cons (AB.tmp rfl) (.nil))) (by simp) rfl ?_
  exact Ey E HR.out HB.out hS.1
 subst h0
 have hz:Be l n=0:=by
  by_cases h0:Be l n=0
  ·exact h0
  exact HA2.out h0
 have hbs:Bv C1 S1 C2 S2 l n=bs:=by unfold Bv;rw [HA.out hz]
 have hbl:bs.length≤1000000:=by rw [←hbs];exact KA hT1 hT2 hl (IT hz)
 have HB:=AD (show Dj C1 S1 C2 S2 l n=Dv (GD (bytesOf bs)) by unfold Dj;rw [if_pos HR.out,hbs])
 have hbyl:(GD (bytesOf bs)).length=(bs.length+7)/8:=by unfold GD;rw [List.length_map,GE]
 have HBI:=AD (dk bs)
 have HBV:=AD (Wd (bytesOf bs))
 clear hl hT1 hT2 hbs hz
 go_enter Tryz.func75,Tryz.ntmps75
 repeat' (first
  | (refine AP 11 ?_);refine AG (f:=85) Tryz.call85 AA ?_;refine ⟨_,(If _ C1 C2 S1 S2 a1 a2 n1 n2 k1 k2 hC1 hC2 (hs1.ext hS.1) (hs2.ext hS.1) hn1 hn2 HT1.out HT2.out),?_⟩;rintro e w ⟨gc,rfl,hS2⟩;replace hS:=hS.call1 hS2;clear hS2;refine AX ?_;go_step|refine X0 ?_|refine X4 ?_|refine X3 ?_|refine PE 2 ?_;clear hS;intro g2 w hS|refine PG ?_|refine cV 6 ?_;clear hS;intro g6 w hS|refine cZ ?_;clear hS;intro w hS|refine AH ?_;go_step|fail)
 all_goals (try exact AQ)
 repeat' (first
  | refine fX 20 ?_|(refine AP 21 ?_);refine AG (f:=100) Tryz.call100 AA ?_;refine ⟨_,(Sz w0 w _ _ g6 g8 gc g18 _ _ HG1.out HG2.out ad n c l 0 bs HA.out HA2.out hn hv (S8 hS AV) AU.head),?_⟩;clear hS;rintro e w ⟨rfl,s',hs',hS⟩;obtain rfl:=hs' rfl;clear hs';obtain ⟨_,hS⟩:=hS.open;dsimp only [List.cons_append,List.nil_append] at hS;refine AX ?_;go_step|refine X0 ?_|(refine AP 17 ?_);(refine Ap AA (V.build (vs:=[]) rfl (WW)) ?_;go_step)|refine X3 ?_|(refine AP 18 ?_);(refine Ad ?_;apply CL (o:=⟨some 18,_,_,_,_,_⟩) hS 171 _ rfl _ rfl;clear hS;intro g18 w hS;refine AC ?_;go_step)|(refine AP 8 ?_);(refine Ad ?_;apply B9 (o:=⟨some 8,_,_,_,_,_⟩) hS 168 rfl (.pointer none) [.pointer none] (fun w=>Tryz.zeroValue168 w) rfl;clear hS;intro g8 w hS;refine AC ?_;go_step)|refine fJ ?_;clear hS;intro w hS|refine AH ?_;go_step|fail)
 all_goals (try exact AQ)
 repeat' (first
  | (refine AP 26 ?_);refine AG (f:=113) Tryz.call113 AA ?_;refine ⟨_,(Ua w0 _ _ _ g18 s' hS AK (by omega)),?_⟩;clear hS;rintro e w ⟨ab,cb,rfl,hS⟩;rw [HBV.out] at hS;refine AX ?_;go_step|(refine AP 27 ?_);refine AG (f:=112) Tryz.call112 AA ?_;refine ⟨_,(VY _ ab _ cb (GD (bytesOf s')) (hS.sl AK) (fun h=>TU hS AU.head h) HBI.out (by omega)),?_⟩;rintro e w ⟨ao,co,rfl,hS2⟩;replace hS:=hS.call1 hS2;clear hS2;refine AX ?_;go_step|refine X8 ?_|refine fP ?_|refine AH ?_;go_step|fail)
 refine AM (xs:=[_,_]) rfl (.cons (AB.tmp rfl) (.cons (AB.tmp rfl) (.nil))) (by simp) rfl ?_
 refine ⟨ao,co,_,by rw [HB.out],by rw [HR.out];rfl,?_⟩
 rw [HB.out]
 exact hS.sub AV
def Tg(g:Nat)(ad:Option Addr)(n c i:Nat)(l:List Nat):Aq:=star [rd g ad n c i,own 5 1 ad n c (bv l)]
def cU(W:World)(rs:List Aq)(g:Nat)(ad:Option Addr)(n c i m:Nat)(l:List Nat)(e:Ending)(w:World):Prop:=
 (8*n<i+m→e= .returned (.tuple #[.int .i64 0, .bool false])∧St W w (Tg g ad n c i l::rs))∧
 (i+m≤8*n→e= .returned (.tuple #[.int .i64 (BE l i m:Nat), .bool true])∧St W w (Tg g ad n c (i+m) l::rs))
theorem Dr(W w0:World)(rs rs':List Aq)(g n c i m:Nat)(ad:Option Addr)(l:List Nat)(hS:St W w0 rs)(hp:AU (Tg g ad n c i l) rs rs')(hl:∀x∈l,x<256)(hn:n≤1000000000000000000)(hi:i≤8*n)(hm:m≤60):
 Calls Tryz.prog 90 #[.pointer (some ⟨g,0,none⟩), .int .i64 m] w0 (cU W rs' g ad n c i m l):=by
 obtain ⟨_,hS⟩:=(hS.pull hp).open
 dsimp only [List.cons_append,List.nil_append] at hS
 have hll:l.length=n:=by have:=hS.ownLen (.tail .head);simpa [bv] using this
 have HLt:=AD hl
 have HLen:=AD hll
 clear hl hll
 by_cases hb:8*n<i+m
 ·have c0:w0.cell? ⟨g,0,none⟩=some (.slice ad n c):=by rw [(hS.blk AU.head).1.cell];rfl
  have c1:w0.cell? ⟨g,1,none⟩=some (.int .i64 (i:Nat)):=by rw [(hS.blk AU.head).1.cell];rfl
  have HL:=AD (LW w0 g n c i ad c0 c1 hn hi)
  clear c0 c1
  go_enter Tryz.func90,Tryz.ntmps90
  repeat' (first
   | (refine Al 89 ?_);refine Am AA Tryz.call89 (HL.out) (EW hS ?_);clear hS;intro w hS;go_step|refine X0 ?_|refine G6 ?_|refine AH ?_;go_step|fail)
  go_ret2
  exact ⟨fun _=>⟨rfl,St.close () (by dsimp only [List.cons_append,List.nil_append];exact hS)⟩,fun h=>absurd h (by omega)⟩
 have hb2:i+m≤8*n:=by omega
 have c0:w0.cell? ⟨g,0,none⟩=some (.slice ad n c):=by rw [(hS.blk AU.head).1.cell];rfl
 have c1:w0.cell? ⟨g,1,none⟩=some (.int .i64 (i:Nat)):=by rw [(hS.blk AU.head).1.cell];rfl
 have HL:=AD (LW w0 g n c i ad c0 c1 hn hi)
 clear c0 c1
 go_enter Tryz.func90,Tryz.ntmps90
 repeat' (first
  | (refine Al 89 ?_);refine Am AA Tryz.call89 (HL.out) (EW hS ?_);clear hS;intro w hS;go_step|refine X0 ?_|refine G6 ?_|refine AH ?_;go_step|fail)
 go_loopg [6,12] m (fun gk nv kv w=>∃(k:Nat),gk+k=m∧kv= .int .i64 k∧nv= .int .i64 (BE l i k:Nat)∧St W w (rd g ad n c (i+k)::own 5 1 ad n c (bv l)::rs'))
 case atStart=>exact ⟨0,rfl,rfl,rfl,hS⟩
 case round=>
  clear hS
  obtain ⟨k,hk,rfl,rfl,hS⟩:=hrel
  by_cases hlt:k<m
  ·have hN:BE l i k<4611686018427387904:=by
    refine Nat.lt_of_lt_of_le (Ld l i k) ?_
    exact Nat.le_trans (Nat.pow_le_pow_right (n:=2) (by omega) (show k≤62 by omega)) (by decide)
   have HOr:=AD (Xc (BE l i k) (GC l (i+k)) hN (Nat.mod_lt _ (by omega)))
   have HOr2:=AD (TT (BE l i k) (GC l (i+k)) hN (Nat.mod_lt _ (by omega)))
   have HAnd:=AD (Zz l (i+k) HLt.out)
   have HSucc:=AD (H3 l i k (by rw [HLen.out];omega))
   have hbit:GC l (i+k)<2:=Nat.mod_lt _ (by omega)
   have h8:(i+k)/8<n:=by omega
   unfold rd at hS
   obtain ⟨b,rfl⟩:=Bq (a:=ad) hS AK (by omega)
   have hcell:(bv l)[(i+k)/8]? =some (.int .u8 ((l.getD ((i+k)/8) 0:Nat):Int)):=by
    unfold bv
    rw [List.getElem?_map,List.getElem?_eq_getElem (by rw [HLen.out];exact h8)]
    simp [List.getD,HLen.out,h8]
   clear HL
   repeat' (first
    | refine X2 ?_|refine AH ?_;go_step|fail)
   refine AR [] (fun w=>St W w (blk g [.slice (some ⟨b,0,none⟩) n c, .int .i64 ((i+k:Nat):Int)]::own 5 1 (some ⟨b,0,none⟩) n c (bv l)::rs')) AA ?_
   replace hS:=hS.drew
   focus
    refine Ab 0 ?_
    refine BX 1 BU (V.shlI rfl rfl BJ (by omega) (by omega)) ?_;go_step
    refine Ab 2 ?_
    refine BX 3 BU (V.nilCheck rfl) ?_;go_step
    refine BX 4 BU (V.fieldAddr TE rfl BK) ?_;go_step
    apply Cr 5 Ar AA AA AA Cp [11,12,19,20,21,22,23] AA (hS.sub AV)
    case hfr=>intro w hS;((refine Ad ?_;apply AZ hS 35 _ rfl _ _ rfl (AI rfl) _;(case hp=>exact AK);(case hc=>rfl);refine AC ?_;go_step));refine wpList_nil ?_;exact ⟨rfl,rfl⟩
    case hd=>rfl
    refine Ab 6 ?_
    refine BX 7 BU (V.nilCheck rfl) ?_;go_step
    refine BX 8 BU (V.fieldAddr Kh rfl BK) ?_;go_step
    refine Y5 9 [10,11,12,19,20,21,22,23] ?_
    refine BX 10 BU (V.quo rfl rfl (by omega) (by omega)) ?_;go_step
    refine BX 11 BU (V.indexSl Tryz.underlying35 U5 rfl rfl BJ (by omega) (Nat.mul_one _) BK) ?_;go_step
    apply Cr 12 Ar AA AA AA Cp [19,20,21,22,23] AA (hS.sub AV)
    case hfr=>intro w hS;((refine Ad ?_;apply Ah hS 5 _ rfl _ _ rfl (AI rfl) _ _ _ _ _;(case hp=>exact AK);(case hv=>with_reducible assumption);refine AC ?_;go_step));refine wpList_nil ?_;exact ⟨rfl,rfl⟩
    case hd=>rfl
    refine Ab 13 ?_
    refine BX 14 BU (V.nilCheck rfl) ?_;go_step
    refine BX 15 BU (V.fieldAddr Kh rfl BK) ?_;go_step
    refine Y5 16 [17,18,19,20,21,22,23] ?_
    refine BX 17 BU (V.rem rfl rfl (by omega) (by omega)) ?_;go_step
    refine BX 18 BU (V.subI rfl rfl (by omega)) ?_;go_step
    refine BX 19 BU (V.shrB (N:=8) rfl rfl BJ (by omega) rfl) ?_;go_step
    (refine Bt 20 (.int _ (((GC l (i+k):Nat):Int))) Ar AA AA AA Cp (V.as (V.and rfl rfl) (by exact HAnd.out)) AA ?_)
    go_step
    refine BX 21 BU (V.convI (by rw [Tryz.underlying5];rfl) Tryz.underlying3 rfl (IntWalk.i64_in _ (by omega))) ?_;go_step
    (refine Bt 22 (.int _ (((2*BE l i k+GC l (i+k):Nat):Int))) Ar AA AA AA Cp (V.as (V.or rfl rfl) (by exact HOr2.out)) AA ?_)
    go_step
    refine Ab 23 ?_
    refine AE AA ?_ _
   repeat' (first
    | refine X1 ?_|refine UR ?_|(with_reducible refine Ak _ (.fieldAddr 184 _ 1) ?_);(refine Ap AA (V.fieldAddr Kh rfl BK) ?_;go_step)|refine X7 ?_|refine ED ?_|refine ee ?_;clear hS;intro w hS|refine AH ?_;go_step|fail)
   go_roundg (gk-1)
   case measure=>omega
   case rel=>exact ⟨k+1,by omega,by go_num,by rw [HSucc.out],by unfold rd;exact hS⟩
  obtain rfl:k=m:=by omega
  repeat' (first
   | refine X0 ?_|refine X2 ?_|refine AH ?_;go_step|fail)
  go_ret2
  exact ⟨fun h=>absurd h (by omega),fun _=>⟨rfl,St.close () (by dsimp only [List.cons_append,List.nil_append];exact hS)⟩⟩
theorem Th{W w0:World}{rs rs' rs2:List Aq}{r:Aq}{g n c i:Nat}{ad:Option Addr}{l:List Nat}(hS:St W w0 rs)(hp:AU r rs rs')(hp2:AU (Tg g ad n c i l) rs' rs2):l.length=n:=by
 obtain ⟨_,h⟩:=((hS.pull hp).drop.pull hp2).open
 have:=h.ownLen (.tail .head)
 simpa [bv] using this
theorem Fh(W w0:World)(rs rs' rs2:List Aq)(g g2 n c i:Nat)(ad:Option Addr)(L:List (Int×Nat×Nat))(l:List Nat)(hS:St W w0 rs)(hp:AU (LC g L) rs rs')(hp2:AU (Tg g2 ad n c i l) rs' rs2)
 (hl:∀x∈l,x<256) (hn:n≤1000000000000000000) (hi:i≤8*n):
 Calls Tryz.prog 176 #[.pointer (some ⟨g,0,none⟩), .pointer (some ⟨g2,0,none⟩)] w0 fun e w=>e= .returned (.tuple #[.int .i64 (G0 L l i 16 0).1, .int .i64 (G0 L l i 16 0).2.1])∧(G0 L l i 16 0).2.2≤8*n∧St W w (LC g L::Tg g2 ad n c (G0 L l i 16 0).2.2 l::rs2):=by
 have hll:l.length=n:=Th hS hp hp2
 obtain ⟨⟨m1,m2⟩,hS⟩:=(hS.pull hp).open
 dsimp only [List.cons_append,List.nil_append] at hS
 have hp3:AU (Tg g2 ad n c i l) (blk g [.map (some m1), .map (some m2)]::mp ik m1 (H9 L)::mp pk m2 (Hp L)::rs') (blk g [.map (some m1), .map (some m2)]::mp ik m1 (H9 L)::mp pk m2 (Hp L)::rs2):= .tail (.tail (.tail hp2))
 replace hS:=hS.pull hp3
 have HLt:=AD hl
 have HLl:=AD hll
 clear hl hll hp hp2 hp3
 obtain ⟨R,hR⟩:∃R,G0 L l i 16 0=R:=⟨_,rfl⟩
 rw [hR]
 have HR:=AD hR
 clear hR
 go_enter Tryz.func176,Tryz.ntmps176
 repeat' (first
  | refine X8 ?_|refine AH ?_;go_step|fail)
 go_loopg [6,7] 16 (fun gk cv kv w=>∃d:Nat,gk+d=16∧kv= .int .i64 ((d:Int)+1)∧cv= .int .i64 (BE l i d:Nat)∧i+d≤8*n∧Hid (G0 L l i gk d=R)∧St W w (Tg g2 ad n c (i+d) l::blk g [.map (some m1), .map (some m2)]::mp ik m1 (H9 L)::mp pk m2 (Hp L)::rs2))
 case atStart=>exact ⟨0,rfl,rfl,by rw [show BE l i 0=0 by unfold BE;rw [List.take_zero];rfl];rfl,hi,HR,hS⟩
 case round=>
  clear hS
  obtain ⟨d,hd,rfl,rfl,hid2,HG,hS⟩:=hrel
  by_cases hlt:d<16
  ·obtain ⟨gk',rfl⟩:∃k,gk=k+1:=⟨gk-1,by omega⟩
   have hg:=HG.out
   rw [G0,HLl.out] at hg
   by_cases hsh:8*n<i+d+1
   ·rw [if_pos (by omega)] at hg
    have HG2:=AD hg
    clear hg HG
    repeat' (first
     | (refine AP 18 ?_);refine AG (f:=90) Tryz.call90 AA ?_;refine ⟨_,(Dr W _ _ _ g2 n c (i+d) 1 ad l hS AK HLt.out hn hid2 (by omega)),?_⟩;rintro e w ⟨hG,_⟩;obtain ⟨rfl,hS2⟩:=hG (by omega);clear hG hS;have hS:=hS2;clear hS2;refine AX ?_;go_step|refine X0 ?_|refine bk ?_|refine X4 ?_|refine KS ?_|refine AH ?_;go_step|fail)
    refine AM (xs:=[_,_]) rfl (.cons (AB.tmp rfl) (.cons (AB.tmp rfl) (.nil))) (by simp) rfl ?_
    rw [←HG2.out]
    refine ⟨rfl,hid2,St.close (m1,m2) ?_⟩
    exact hS.sub AV
   rw [if_neg (by omega)] at hg
   have HCat:=AD (VI l i d (by rw [HLl.out];omega))
   have hb1:BE l (i+d) 1<2:=Ld l (i+d) 1
   have hN:BE l i d<65536:=Nat.lt_of_lt_of_le (Ld l i d) (Nat.pow_le_pow_right (n:=2) (j:=16) (by omega) (by omega))
   obtain ⟨N1,hN1⟩:∃x,BE l i (d+1)=x:=⟨_,rfl⟩
   rw [hN1] at hg HCat
   have HN1:=AD hN1
   clear hN1
   have HOr:=AD (TT (BE l i d) (BE l (i+d) 1) (by omega) hb1)
   rw [←HCat.out] at HOr
   cases hc:codW L (((d+1:Nat):Int),(N1:Int)) with
   | some s=>
     rw [hc] at hg
     dsimp only at hg
     have HG2:=AD hg
     have hf:Hp L ((d:Int)+1,(N1:Int))=some (.int .i64 s):=by
      unfold Hp;rw [show (d:Int)+1=((d+1:Nat):Int) by omega,hc];rfl
     clear hg HG hc
     repeat' (first
      | (refine AP 18 ?_);refine AG (f:=90) Tryz.call90 AA ?_;refine ⟨_,(Dr W _ _ _ g2 n c (i+d) 1 ad l hS AK HLt.out hn hid2 (by omega)),?_⟩;rintro e w ⟨_,hG⟩;obtain ⟨rfl,hS2⟩:=hG (by omega);clear hG hS;have hS:=hS2;clear hS2;refine AX ?_;go_step|(refine AP 26 ?_);(refine Ag (.int _ (((N1:Nat):Int))) (V.as (V.or rfl rfl) (by exact HOr.out)) (by kernel_rfl) ?_;go_step)|refine X0 ?_|refine bk ?_|refine X4 ?_|refine KS ?_|refine ZT ?_|refine UR ?_|(with_reducible refine Ak _ (.fieldAddr 202 _ 1) ?_);(refine Ap AA (V.fieldAddr OC rfl BK) ?_;go_step)|(refine AP 34 ?_);(refine Ap AA (V.build (vs:=[(0,_),(1,_)]) rfl (JQ _ _)) ?_;go_step)|refine fS ?_|(refine AP 35 ?_);(refine Ad ?_;apply KG (enc:=pk) hS 200 _ _ rfl _ rfl (_,_) rfl Tryz.underlying200 (GI Tryz.underlying206 Tryz.underlying3 EA) (.int .i64 0) (fun w=>Tryz.zeroValue3 w) _;(case hp=>exact AK);(case hf=>with_reducible assumption);refine AC ?_;go_step)|refine AH ?_;go_step|fail)
     refine AM (xs:=[_,_]) rfl (.cons (AB.tmp rfl) (.cons (AB.tmp rfl) (.nil))) (by simp) rfl ?_
     rw [←HG2.out]
     refine ⟨rfl,by show i+(d+1)≤8*n;omega,St.close (m1,m2) ?_⟩
     dsimp only
     rw [show i+d+1=i+(d+1) by omega] at hS
     exact hS.sub AV
   | none=>
     rw [hc] at hg
     dsimp only at hg
     have HG2:=AD hg
     have hf:Hp L ((d:Int)+1,(N1:Int))=none:=by
      unfold Hp;rw [show (d:Int)+1=((d+1:Nat):Int) by omega,hc];rfl
     clear hg HG hc
     repeat' (first
      | (refine AP 18 ?_);refine AG (f:=90) Tryz.call90 AA ?_;refine ⟨_,(Dr W _ _ _ g2 n c (i+d) 1 ad l hS AK HLt.out hn hid2 (by omega)),?_⟩;rintro e w ⟨_,hG⟩;obtain ⟨rfl,hS2⟩:=hG (by omega);clear hG hS;have hS:=hS2;clear hS2;refine AX ?_;go_step|(refine AP 26 ?_);(refine Ag (.int _ (((N1:Nat):Int))) (V.as (V.or rfl rfl) (by exact HOr.out)) (by kernel_rfl) ?_;go_step)|refine X0 ?_|refine bk ?_|refine X7 ?_|refine X4 ?_|refine KS ?_|refine ZT ?_|refine UR ?_|(with_reducible refine Ak _ (.fieldAddr 202 _ 1) ?_);(refine Ap AA (V.fieldAddr OC rfl BK) ?_;go_step)|(refine AP 34 ?_);(refine Ap AA (V.build (vs:=[(0,_),(1,_)]) rfl (JQ _ _)) ?_;go_step)|refine fS ?_|(refine AP 35 ?_);(refine Ad ?_;apply KF (enc:=pk) hS 200 _ _ rfl _ rfl (_,_) rfl Tryz.underlying200 (GI Tryz.underlying206 Tryz.underlying3 EA) (.int .i64 0) (fun w=>Tryz.zeroValue3 w) _;(case hp=>exact AK);(case hf=>with_reducible assumption);refine AC ?_;go_step)|refine AH ?_;go_step|fail)
     go_roundg gk'
     case measure=>omega
     case rel=>exact ⟨d+1,by omega,by go_num,by rw [HN1.out],by omega,HG2,(by rw [show i+d+1=i+(d+1) by omega] at hS;exact hS.sub AV)⟩
  obtain rfl:d=16:=by omega
  obtain rfl:gk=0:=by omega
  have hg:=HG.out
  rw [G0] at hg
  have HG2:=AD hg
  clear hg HG
  repeat' (first
   | refine X0 ?_|refine bk ?_|refine AH ?_;go_step|fail)
  refine AM (xs:=[_,_]) rfl (.cons (AB.tmp rfl) (.cons (AB.tmp rfl) (.nil))) (by simp) rfl ?_
  rw [←HG2.out]
  refine ⟨rfl,hid2,St.close (m1,m2) ?_⟩
  exact hS.sub AV
end Go.Proofs.YtohacgmhmbijmaaGreatDoor
namespace Go.Proofs.YtohacgmhmbijmaaGreatDoor
attribute [local irreducible] Region.wanted
set_option linter.unusedVariables false
set_option maxRecDepth 100000
set_option maxHeartbeats 8000000
theorem VJ(l:List Nat)(i k m:Nat)(h:k≤m)(hm:i+m≤8*l.length):BE l i m/2^(m-k)=BE l i k:=by
 unfold BE
 have e:((BM l).drop i).take m=((BM l).drop i).take k++((((BM l).drop i).drop k).take (m-k)):=by
  conv=>lhs;rw [show m=k+(m-k) by omega,List.take_add]
 have hl:((((BM l).drop i).drop k).take (m-k)).length=m-k:=by
  rw [List.length_take,List.length_drop,List.length_drop,CV];omega
 have hlt:=H4 ((((BM l).drop i).drop k).take (m-k))
 rw [e,Di]
 rw [hl] at hlt⊢
 rw [Nat.mul_comm,Nat.mul_add_div (Nat.two_pow_pos _),Nat.div_eq_of_lt hlt,Nat.add_zero]
theorem aL{L:List (Int×Nat×Nat)}(hG:Cs L)(l:List Nat)(i:Nat)(x:Int×Nat×Nat)(hx:x∈L)(hi:i+x.2.1≤8*l.length)(hb:BE l i x.2.1=x.2.2):
 ∀f d,d+f=16→d<x.2.1→G0 L l i f d=(x.1,0,i+x.2.1):=by
 have hl:=hG.long x hx
 intro f
 induction f with
 | zero=>intro d h1 h2;omega
 | succ f ih=>
   intro d h1 h2
   rw [G0,if_neg (by omega)]
   cases hc:codW L (((d+1:Nat):Int),(BE l i (d+1):Int)) with
   | some s=>
     have hm:=LE hc
     have e:=hG.pre _ hm x hx (by show d+1≤x.2.1;omega) (by show x.2.2/2^(x.2.1-(d+1))=BE l i (d+1);rw [←hb];exact VJ l i (d+1) x.2.1 (by omega) hi)
     dsimp only
     have e1:s=x.1:=by rw [←e]
     have e2:d+1=x.2.1:=by rw [←e]
     rw [e1,e2]
   | none=>
     dsimp only
     refine ih (d+1) (by omega) ?_
     have hne:d+1≠x.2.1:=fun e=>by
      rw [e,hb] at hc
      rw [hG.codW hx] at hc;cases hc
     omega
theorem cA{L:List (Int×Nat×Nat)}(l:List Nat)(i:Nat):∀f d,(G0 L l i f d).2.1=0→∃m,d<m∧m≤d+f∧(G0 L l i f d).2.2=i+m∧i+m≤8*l.length∧((G0 L l i f d).1,m,BE l i m)∈L:=by
 intro f
 induction f with
 | zero=>intro d h;exact absurd h (by show (4:Int)≠0;decide)
 | succ f ih=>
   intro d h
   rw [G0] at h⊢
   by_cases hs:8*l.length<i+(d+1)
   ·rw [if_pos hs] at h;exact absurd h (by show (3:Int)≠0;decide)
   rw [if_neg hs] at h⊢
   cases hc:codW L (((d+1:Nat):Int),(BE l i (d+1):Int)) with
   | some s=>exact ⟨d+1,by omega,by omega,rfl,by omega,LE hc⟩
   | none=>
     rw [hc] at h
     obtain ⟨m,h1,h2,h3,h4,h5⟩:=ih (d+1) h
     exact ⟨m,by omega,by omega,h3,h4,h5⟩
theorem cS{L:List (Int×Nat×Nat)}(hG:Cs L){x:Int×Nat×Nat}(hx:x∈L):wb L x.1=Ax x.2.1 x.2.2:=by
 unfold wb;rw [hG.symW hx]
end Go.Proofs.YtohacgmhmbijmaaGreatDoor
namespace Go.Proofs.YtohacgmhmbijmaaGreatDoor
attribute [local irreducible] Region.wanted
open Go.RowKit
set_option linter.unusedVariables false
set_option maxRecDepth 100000
set_option maxHeartbeats 8000000
theorem dh(m0:Int)(w:World):(Instr.build 26 #[(0, .int .i64 m0)]).run Tryz.prog w= .ok (.agg (iv (((List.replicate 64 0).set 0 m0)))) w:=by kernel_rfl
structure fD(W:World)(σ:Type) where
 next:σ→Bool→CO×Int×σ
 res:σ→Aq
 tid:TypeId
 ptr:Value
 f:FuncId
 inv:∀(b:Bool)(w:World),(invoke (.fn (.method "Token") #[]) [.iface tid ptr, .bool b].toArray).run Tryz.prog w= .ok (.enter f #[ptr, .bool b]) w
 call:∀(w:World)(rs rs':List Aq)(s:σ)(b:Bool)(t0 t1 t2 er:Int)(s':σ),St W w rs→AU (res s) rs rs'→next s b=((t0,t1,t2),er,s')→
  Calls Tryz.prog f #[ptr, .bool b] w fun e w'=>e= .returned (.tuple #[.agg #[.int .i64 t0, .int .i64 t1, .int .i64 t2], .int .i64 er])∧St W w' (res s'::rs')
structure Kz(p:Prop):Prop where
 out:p
def Ba:List Int:=List.replicate 64 0
theorem CX(w0:World)(e0:Int):Calls Tryz.prog 120 #[.int .i64 e0] w0 fun e w=>e= .returned (.tuple #[.agg (iv Ba), .slice none 0 0, .int .i64 e0])∧Af w0 w:=by
 have hS:=St.start w0
 have hZ:Ac Ba 64:=List.length_replicate
 go_enter Tryz.func120,Tryz.ntmps120
 repeat' (first
  | refine X0 ?_|(refine AP 5 ?_);(refine Ap AA (V.build (vs:=[]) rfl (bx)) ?_;go_step)|refine KP 2 ?_;clear hS;intro g2 w hS|refine FX ?_;clear hS;intro w hS|refine AH ?_;go_step|fail)
 refine AM (xs:=[_,_,_]) rfl (.cons (AB.arr hS rfl (AO (n:=64) rfl) AK) (.cons (AB.tmp rfl) (.cons (AB.tmp rfl) (.nil)))) (by simp) rfl ?_
 exact ⟨rfl,hS.1⟩
def QF(k v:Int):Bool:=decide (0≤k∧k≤12)&&decide (0≤v∧v<2^k.toNat)
theorem Sg(k v:Int)(w:World)(h:QF k v=false):Calls Tryz.prog 121 #[.int .i64 k, .int .i64 v] w fun e w'=>e= .returned (.tuple #[.int .i64 0, .int .i64 1])∧w=w':=by
 by_cases hk:0≤k∧k≤12
 case neg=>
  have hk2:k<0∨12<k:=by omega
  clear hk h
  go_enter Tryz.func121,Tryz.ntmps121
  repeat' (first
   | go_skip|((first|(with_reducible refine J4 ?_)|(with_reducible refine RI ?_));(first|go_big_want|go_step);go_step)|((with_reducible refine Ak _ (.pick _ _ _) ?_);first|(refine BD rfl AA ?_;go_step)|(refine A6 rfl AA ?_;go_step))|((refine AP 8 ?_);(refine CY _ (V.lss rfl rfl) AA (fun hB=>?_) (fun hB=>?_)<;>(try exact AQ)<;>go_step))|((refine AP 11 ?_);(refine CY _ (V.gtr rfl rfl) AA (fun hB=>?_) (fun hB=>?_)<;>(try exact AQ)<;>go_step))|(refine AH ?_;go_step)|fail)
  all_goals (try exact AQ)
  all_goals
   refine AM (xs:=[_,_]) rfl (.cons (AB.tmp rfl) (.cons (AB.tmp rfl) (.nil))) (by simp) rfl ?_
   exact ⟨rfl,rfl⟩
 obtain ⟨n,rfl⟩:∃n:Nat,k=(n:Int):=⟨k.toNat,by omega⟩
 obtain ⟨p,hp⟩:∃p,2^n=p:=⟨_,rfl⟩
 have HP:Hid ((2:Int)^n=(p:Int)):=AD (by rw [←hp];push_cast;rfl)
 have hp2:p≤4096:=by rw [←hp];exact Nat.pow_le_pow_right (n:=2) (j:=12) (by omega) (by omega)
 have hv:v<0∨(p:Int)≤v:=by
  unfold QF at h
  rw [decide_eq_true hk,Bool.true_and,decide_eq_false_iff_not,Int.toNat_natCast,HP.out] at h
  omega
 clear h hp
 go_enter Tryz.func121,Tryz.ntmps121
 repeat' (first
  | (refine AP 20 ?_);(refine Ag (.int _ (((p:Nat):Int))) (V.as (V.shl1 rfl rfl BJ (by omega)) (by exact HP.out)) (by kernel_rfl) ?_;go_step)|go_skip|refine X0 ?_|refine IR ?_|refine Es 8 ?_ ?_<;>intro hB<;>(try exact AQ)<;>go_step|refine KQ 11 ?_ ?_<;>intro hB<;>(try exact AQ)<;>go_step|refine Es 15 ?_ ?_<;>intro hB<;>(try exact AQ)<;>go_step|refine ZS ?_|refine AH ?_;go_step|fail)
 all_goals (try exact AQ)
 all_goals
  refine AM (xs:=[_,_]) rfl (.cons (AB.tmp rfl) (.cons (AB.tmp rfl) (.nil))) (by simp) rfl ?_
  exact ⟨rfl,rfl⟩
theorem Cw(k v:Int)(w:World)(h:QF k v=true):Calls Tryz.prog 121 #[.int .i64 k, .int .i64 v] w fun e w'=>e= .returned (.tuple #[.int .i64 (D4 k.toNat v.toNat), .int .i64 0])∧w=w':=by
 unfold QF at h
 simp only [Bool.and_eq_true,decide_eq_true_eq] at h
 obtain ⟨n,rfl⟩:∃n:Nat,k=(n:Int):=⟨k.toNat,by omega⟩
 obtain ⟨m,rfl⟩:∃m:Nat,v=(m:Int):=⟨v.toNat,by omega⟩
 rw [Int.toNat_natCast,Int.toNat_natCast]
 refine Oa n m w (by omega) ?_
 have h2:=h.2.2
 rw [Int.toNat_natCast] at h2
 have:((m:Int))<((2^n:Nat):Int):=by push_cast;exact h2
 omega
theorem Xv(k v:Nat)(h:v<2^k): -(2^k:Nat)<D4 k v∧D4 k v<(2^k:Nat):=by
 unfold D4
 split<;>omega
theorem Ki(t0 t1 t2:Int)(h:QF t1 t2=true): -4096<C7 (t0,t1,t2)∧C7 (t0,t1,t2)<4096∧(t1≤11→ -2048<C7 (t0,t1,t2)∧C7 (t0,t1,t2)<2048):=by
 unfold QF at h
 simp only [Bool.and_eq_true,decide_eq_true_eq] at h
 obtain ⟨n,rfl⟩:∃n:Nat,t1=(n:Int):=⟨t1.toNat,by omega⟩
 obtain ⟨m,rfl⟩:∃m:Nat,t2=(m:Int):=⟨t2.toNat,by omega⟩
 rw [Int.toNat_natCast] at h
 have h2:m<2^n:=by
  have:((m:Int))<((2^n:Nat):Int):=by push_cast;exact h.2.2
  omega
 have h3:=Xv n m h2
 unfold C7
 dsimp only
 rw [Int.toNat_natCast,Int.toNat_natCast]
 have h4:2^n≤4096:=Nat.pow_le_pow_right (n:=2) (j:=12) (by omega) (by omega)
 refine ⟨by omega,by omega,fun h5=>?_⟩
 have h6:2^n≤2048:=Nat.pow_le_pow_right (n:=2) (j:=11) (by omega) (by omega)
 omega
theorem Sh(t0 t1 t2:Int):MX (t0,t1,t2)=true↔QF t1 t2=false∨11<t1∨t0<0∨255<t0∨t1≠t0%16∨(t1=0∧t0≠0∧t0≠240):=by
 unfold MX QF
 dsimp only
 generalize hB:(decide (0≤t2∧t2<2^t1.toNat))=B
 clear hB
 cases B
 ·simp
 rw [Bool.and_true,Bool.and_true,Bool.not_eq_true']
 rw [show (decide (0≤t1∧t1≤11)&&decide (0≤t0∧t0≤255)&&decide (t1=t0%16)&&(decide (t1≠0)||decide (t0=0∨t0=240)))=decide ((0≤t1∧t1≤11)∧(0≤t0∧t0≤255)∧t1=t0%16∧(t1≠0∨t0=0∨t0=240)) by
  rw [Bool.eq_iff_iff];simp only [Bool.and_eq_true,Bool.or_eq_true,decide_eq_true_eq];omega]
 rw [decide_eq_false_iff_not,decide_eq_false_iff_not]
 omega
theorem WS(t0:Int)(h:0≤t0∧t0≤255):bits .and .i64 t0 15=t0%16:=by
 obtain ⟨n,rfl⟩:∃n:Nat,t0=(n:Int):=⟨t0.toNat,by omega⟩
 rw [show (15:Int)=((15:Nat):Int) from rfl,bits_and_i64_nat n 15 (by omega) (by omega)]
 rw [show (15:Nat)=2^4-1 from rfl,Nat.and_two_pow_sub_one_eq_mod]
 omega
theorem MN(l:List Int)(h:∀i,i<64→ -2047≤AJ l i∧AJ l i≤2047)(j:Nat)(hj:j<64): -2047≤AJ (CI l) j∧AJ (CI l) j≤2047:=by
 obtain ⟨h1,h2⟩:=T8 j hj
 have h3:=O0 l 64 (by omega) _ h1
 rw [h2] at h3
 have h4:AJ (CI l) j=AJ l (Qx.idxOf j):=h3
 rw [h4];exact h _ h1
def JJ{W:World}{σ:Type}(Z:fD W σ)(before:Int)(s0:σ)(rs':List Aq)(e:Ending)(w:World):Prop:=
 ∃ad c,e= .returned (.tuple #[.agg (iv (DV Z.next before s0).2.1), .slice ad (DV Z.next before s0).2.2.1.length c, .int .i64 (DV Z.next before s0).1])∧
  St W w (own 155 3 ad (DV Z.next before s0).2.2.1.length c ((Ep (DV Z.next before s0).2.2.1).map (Value.int .i64))::Z.res (DV Z.next before s0).2.2.2::rs')
theorem C0{W w:World}{σ:Type}{Z:fD W σ}{before:Int}{s0 s1:σ}{rs' rs:List Aq}(E:Int)(h:DV Z.next before s0=(E,Ba,[],s1))(hS:St W w rs)(hp:PB (Z.res s1::rs') rs):
 JJ Z before s0 rs' (.returned (.tuple #[.agg (iv Ba), .slice none 0 0, .int .i64 E])) w:=by
 refine ⟨none,0,by rw [h];rfl,?_⟩
 rw [h]
 exact (hS.sub hp).nil _ _
theorem W5{W:World}{σ:Type}(Z:fD W σ)(w0:World)(rs rs':List Aq)(s0:σ)(before:Int)(hb: -2047≤before∧before≤2047)(hS:St W w0 rs)(hp:AU (Z.res s0) rs rs')(hbad:¬((Z.next s0 true).2.1=0∧Bm before (Z.next s0 true).1=true)):
 Calls Tryz.prog 88 #[.int .i64 before, .iface Z.tid Z.ptr] w0 (JJ Z before s0 rs'):=by
 replace hS:=hS.pull hp
 have hbad:=Kz.mk hbad
 have hZ0:Ac Ba 64:=List.length_replicate
 clear hp
 obtain ⟨⟨⟨t0,t1,t2⟩,er,s1⟩,hn⟩:∃x,Z.next s0 true=x:=⟨_,rfl⟩
 by_cases he:er=0
 case neg=>
  have HF:Hid (DV Z.next before s0=(er,Ba,[],s1)):=AD (by unfold DV;rw [hn];exact if_pos he)
  have HN:=AD hn
  clear hn
  go_enter Tryz.func88,Tryz.ntmps88
  repeat' (first
   | (refine AP 19 ?_);refine Ad ?_;refine CA rfl (.iface Z.tid Z.ptr) rfl [.bool true] rfl Z.f #[Z.ptr, .bool true] (Z.inv true) (Z.call _ _ _ s0 true _ _ _ _ _ hS AK HN.out) ?_;clear hS;rintro e w ⟨rfl,hS⟩;refine AX ?_;go_step|(refine AP 26 ?_);refine Ad ?_;refine BS (f:=120) rfl rfl Tryz.call120 (CX _ _) ?_;rintro e w ⟨rfl,hE⟩;replace hS:=hS.ext hE;clear hE;refine AX ?_;go_step|refine X0 ?_|refine X4 ?_|refine X3 ?_|refine KP 4 ?_;clear hS;intro g4 w hS|refine JO 8 ?_;clear hS;intro g8 w hS|refine JD ?_;clear hS;intro w hS|refine FX ?_;clear hS;intro w hS|refine AH ?_;go_step|fail)
  refine AM (xs:=[_,_,_]) rfl (.cons (AB.arr hS rfl (AO (n:=64) rfl) AK) (.cons (AB.tmp rfl) (.cons (AB.tmp rfl) (.nil)))) (by simp) rfl ?_
  exact C0 er HF.out hS AV
 subst he
 have HN:=AD hn
 obtain ⟨F,hF⟩:∃F,Bm before (t0,t1,t2)=F:=⟨_,rfl⟩
 by_cases hB:QF t1 t2=true
 case neg=>
  have hB2:QF t1 t2=false:=by simpa using hB
  have HF:Hid (DV Z.next before s0=(4,Ba,[],s1)):=AD (by
   have:Bm before (t0,t1,t2)=false:=by
    unfold Bm;dsimp only
    rw [show (decide (0≤t1∧t1≤12)&&decide (0≤t2∧t2<2^t1.toNat))=false from hB2];rfl
   unfold DV;rw [hn]
   rw [if_neg (by simp),if_pos this];rfl)
  clear hn hF hB
  go_enter Tryz.func88,Tryz.ntmps88
  repeat' (first
   | (refine AP 19 ?_);refine Ad ?_;refine CA rfl (.iface Z.tid Z.ptr) rfl [.bool true] rfl Z.f #[Z.ptr, .bool true] (Z.inv true) (Z.call _ _ _ s0 true _ _ _ _ _ hS AK HN.out) ?_;clear hS;rintro e w ⟨rfl,hS⟩;refine AX ?_;go_step|(refine AP 37 ?_);refine AG (f:=121) Tryz.call121 AA ?_;refine ⟨_,(Sg t1 t2 _ hB2),?_⟩;rintro e w' ⟨rfl,rfl⟩;refine AX ?_;go_step|(refine AP 57 ?_);refine Ad ?_;refine BS (f:=120) rfl rfl Tryz.call120 (CX _ _) ?_;rintro e w ⟨rfl,hE⟩;replace hS:=hS.ext hE;clear hE;refine AX ?_;go_step|go_skip|refine X0 ?_|refine Eu ?_|refine Et 41 ?_ ?_<;>intro hB<;>(try exact AQ)<;>go_step|refine X4 ?_|refine X3 ?_|refine Sd ?_|refine dS ?_|refine KP 4 ?_;clear hS;intro g4 w hS|refine JO 8 ?_;clear hS;intro g8 w hS|refine JD ?_;clear hS;intro w hS|refine FX ?_;clear hS;intro w hS|refine Se ?_|refine Sb 31 ?_;clear hS;intro g31 w hS|refine ED ?_|refine AH ?_;go_step|fail)
  all_goals (try exact AQ)
  refine AM (xs:=[_,_,_]) rfl (.cons (AB.arr hS rfl (AO (n:=64) rfl) AK) (.cons (AB.tmp rfl) (.cons (AB.tmp rfl) (.nil)))) (by simp) rfl ?_
  exact C0 4 HF.out hS AV
 obtain ⟨n,hnum⟩:∃n,C7 (t0,t1,t2)=n:=⟨_,rfl⟩
 have hnb:=Ki t0 t1 t2 hB
 rw [hnum] at hnb
 obtain ⟨hn1,hn2,_⟩:=hnb
 have HNum:Hid (D4 t1.toNat t2.toNat=n):=AD hnum
 obtain ⟨q,hq⟩:∃q,Yv (before+n)=q:=⟨_,rfl⟩
 have HQ:=AD hq
 by_cases hok:t0=t1∧q=true
 case neg=>
  have HF:Hid (DV Z.next before s0=(4,Ba,[],s1)):=AD (by
   have:Bm before (t0,t1,t2)=false:=by
    unfold Bm;rw [hnum];dsimp only
    by_cases h1:t0=t1
    ·rw [show decide (-2047≤before+n∧before+n≤2047)=false from decide_eq_false (fun h=>hok ⟨h1,by rw [←hq];exact (Gj _).2 h⟩)];simp
    rw [decide_eq_false h1];simp
   unfold DV;rw [hn]
   rw [if_neg (by simp),if_pos this];rfl)
  clear hn hF hnum hq
  by_cases h1:t0=t1
  case pos=>
   obtain rfl:q=false:=by cases q<;>simp_all
   clear hok
   go_enter Tryz.func88,Tryz.ntmps88
   repeat' (first
    | (refine AP 19 ?_);refine Ad ?_;refine CA rfl (.iface Z.tid Z.ptr) rfl [.bool true] rfl Z.f #[Z.ptr, .bool true] (Z.inv true) (Z.call _ _ _ s0 true _ _ _ _ _ hS AK HN.out) ?_;clear hS;rintro e w ⟨rfl,hS⟩;refine AX ?_;go_step|(refine AP 37 ?_);refine AG (f:=121) Tryz.call121 AA ?_;refine ⟨_,(Cw t1 t2 _ hB),?_⟩;rintro e w' ⟨rfl,rfl⟩;rw [HNum.out];refine AX ?_;go_step|(refine Al 122 ?_);refine Am AA Tryz.call122 (Dg (before+n) _) ?_;rintro e w' ⟨rfl,rfl⟩;rw [HQ.out];refine AX ?_;go_step|(refine AP 57 ?_);refine Ad ?_;refine BS (f:=120) rfl rfl Tryz.call120 (CX _ _) ?_;rintro e w ⟨rfl,hE⟩;replace hS:=hS.ext hE;clear hE;refine AX ?_;go_step|refine X0 ?_|refine IL ?_|refine Et 41 ?_ ?_<;>intro hB<;>(try exact AQ)<;>go_step|refine Et 47 ?_ ?_<;>intro hB<;>(try exact AQ)<;>go_step|refine X4 ?_|refine X3 ?_|refine Sd ?_|refine dS ?_|refine WH ?_|refine X7 ?_|refine KS ?_|refine KP 4 ?_;clear hS;intro g4 w hS|refine JO 8 ?_;clear hS;intro g8 w hS|refine JD ?_;clear hS;intro w hS|refine FX ?_;clear hS;intro w hS|refine Se ?_|refine Sb 31 ?_;clear hS;intro g31 w hS|refine ED ?_|refine AH ?_;go_step|fail)
   all_goals (try exact AQ)
   refine AM (xs:=[_,_,_]) rfl (.cons (AB.arr hS rfl (AO (n:=64) rfl) AK) (.cons (AB.tmp rfl) (.cons (AB.tmp rfl) (.nil)))) (by simp) rfl ?_
   exact C0 4 HF.out hS AV
  case neg=>
   clear hok
   go_enter Tryz.func88,Tryz.ntmps88
   repeat' (first
    | (refine AP 19 ?_);refine Ad ?_;refine CA rfl (.iface Z.tid Z.ptr) rfl [.bool true] rfl Z.f #[Z.ptr, .bool true] (Z.inv true) (Z.call _ _ _ s0 true _ _ _ _ _ hS AK HN.out) ?_;clear hS;rintro e w ⟨rfl,hS⟩;refine AX ?_;go_step|(refine AP 37 ?_);refine AG (f:=121) Tryz.call121 AA ?_;refine ⟨_,(Cw t1 t2 _ hB),?_⟩;rintro e w' ⟨rfl,rfl⟩;rw [HNum.out];refine AX ?_;go_step|(refine AP 57 ?_);refine Ad ?_;refine BS (f:=120) rfl rfl Tryz.call120 (CX _ _) ?_;rintro e w ⟨rfl,hE⟩;replace hS:=hS.ext hE;clear hE;refine AX ?_;go_step|go_skip|refine X0 ?_|refine IR ?_|refine Et 41 ?_ ?_<;>intro hB<;>(try exact AQ)<;>go_step|refine Et 47 ?_ ?_<;>intro hB<;>(try exact AQ)<;>go_step|refine X4 ?_|refine X3 ?_|refine Sd ?_|refine dS ?_|refine WH ?_|refine KP 4 ?_;clear hS;intro g4 w hS|refine JO 8 ?_;clear hS;intro g8 w hS|refine JD ?_;clear hS;intro w hS|refine FX ?_;clear hS;intro w hS|refine Se ?_|refine Sb 31 ?_;clear hS;intro g31 w hS|refine ED ?_|refine AH ?_;go_step|fail)
   all_goals (try exact AQ)
   refine AM (xs:=[_,_,_]) rfl (.cons (AB.arr hS rfl (AO (n:=64) rfl) AK) (.cons (AB.tmp rfl) (.cons (AB.tmp rfl) (.nil)))) (by simp) rfl ?_
   exact C0 4 HF.out hS AV
 obtain ⟨rfl,rfl⟩:=hok
 have hco:=(Gj _).1 hq
 have HFirst:Hid (Bm before (t0,t0,t2)=true):=AD (by
  unfold Bm;rw [hnum];dsimp only
  rw [show (decide (0≤t0∧t0≤12)&&decide (0≤t2∧t2<2^t0.toNat))=true from hB,decide_eq_true (rfl:t0=t0),decide_eq_true hco];rfl)
 exact absurd ⟨by rw [hn],by rw [hn];exact HFirst.out⟩ hbad.out
end Go.Proofs.YtohacgmhmbijmaaGreatDoor
