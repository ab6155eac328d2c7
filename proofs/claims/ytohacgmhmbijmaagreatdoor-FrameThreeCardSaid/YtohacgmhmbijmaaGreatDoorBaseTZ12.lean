/- What the laws FrameThree need, part 12. -/
import Derived.Test.YtohacgmhmbijmaaGreatDoorBaseTZ2
import Derived.Test.YtohacgmhmbijmaaGreatDoorBaseTZ3
import Derived.Test.YtohacgmhmbijmaaGreatDoorBaseTZ11
namespace Go.Proofs.YtohacgmhmbijmaaGreatDoor
attribute [local irreducible] Region.wanted
open Go.RowKit
set_option linter.unusedVariables false
set_option maxRecDepth 100000
set_option maxHeartbeats 8000000
def K7(x y:Int):Int:=if x<y then -1 else if y<x then 1 else 0
theorem SI(w:World)(x:Int):Calls Tryz.prog 140 #[.int .i64 x] w fun e w'=>e= .returned (.bool false)∧Al w w':=by
 have hS:=St.start w
 go_enter Tryz.func140,Tryz.ntmps140
 repeat' (first
  | refine X0 ?_|refine IJ ?_|refine AG ?_;go_step|fail)
 all_goals go_ret
 all_goals exact ⟨by simp,hS.1⟩
theorem Nk(w:World)(x y:Int):Calls Tryz.prog 132 #[.int .i64 x, .int .i64 y] w fun e w'=>e= .returned (.int .i64 (K7 x y))∧Al w w':=by
 have hS:=St.start w
 go_enter Tryz.func132,Tryz.ntmps132
 repeat' (first
  | (refine A3 140 ?_);refine A4 AA Tryz.call140 (SI _ _) (Gb hS ?_);clear hS;intro w hS;go_step|refine X0 ?_|refine X2 ?_|refine Gv ?_|refine AG ?_;go_step|fail)
 all_goals go_ret
 all_goals (refine ⟨?_,hS.1⟩;unfold K7;first|(rw [if_pos (by omega)];rfl)|(rw [if_neg (by omega),if_pos (by omega)];rfl)|(rw [if_neg (by omega),if_neg (by omega)];rfl))
theorem DA(w:World)(p q:DN):Calls Tryz.prog 104 #[.agg (LJ p).toArray, .agg (LJ q).toArray] w fun e w'=>e= .returned (.int .i64 (K7 p.w q.w))∧Al w w':=by
 have hS:=St.start w
 obtain ⟨x,ap,np,cp⟩:=p
 obtain ⟨y,aq,nq,cq⟩:=q
 simp only [LJ]
 go_enter Tryz.func104,Tryz.ntmps104
 repeat' (first
  | (refine A3 132 ?_);refine A4 AA Tryz.call132 (Nk _ _ _) (Gb hS ?_);clear hS;intro w hS;go_step|refine X8 ?_|(with_reducible refine An _ (.fieldAddr 159 _ 0) ?_);(refine As AA (V.fieldAddr MT rfl BO) ?_;go_step)|(refine AS 2 ?_);(refine Ag ?_;apply CP (o:=⟨some 2,_,_,_,_,_⟩) hS 159 _ rfl _ rfl;clear hS;intro g2 w hS;refine AB ?_;go_step)|(refine AS 3 ?_);(refine Ag ?_;apply CP (o:=⟨some 3,_,_,_,_,_⟩) hS 159 _ rfl _ rfl;clear hS;intro g3 w hS;refine AB ?_;go_step)|refine X9 ?_|refine AG ?_;go_step|fail)
 all_goals go_ret
 all_goals exact ⟨rfl,hS.1⟩
abbrev CW(g n c:Nat)(P:List DN):Au:=own 159 2 (some ⟨g,0,none⟩) n c (P.flatMap LJ)
theorem Eb(W w0:World)(rs rs':List Au)(g n c a b k:Nat)(P:List DN)(hS:St W w0 rs)(hp:AT (CW g n c P) rs rs')(hab:a+k≤b)(hb:b+k≤n)(hn:n≤1000000)(K:Value):
 Calls Tryz.prog 154 #[.slice (some ⟨g,0,none⟩) n c, .int .i64 a, .int .i64 b, .int .i64 k,K] w0 fun e w=>e= .returned (.tuple #[])∧∃Q,QO a b k P Q∧St W w (CW g n c Q::rs'):=by
 replace hS:=hS.pull hp
 have he:=Ct
 have h1e:=Mg
 have hPl:=EB hS AT.head Ct (by decide)
 go_enter Tryz.func154,Tryz.ntmps154
 repeat' (first
  | refine X8 ?_|refine AG ?_;go_step|fail)
 go_loopg [10] k (fun gk iv w=>∃(i:Nat) (Q:List DN),gk+i=k∧iv= .int .i64 i∧QO a b i P Q∧St W w (CW g n c Q::rs'))
 case atStart=>exact ⟨0,P,by omega,rfl,QO.refl a b P,hS⟩
 case round=>
  clear hS
  obtain ⟨i,Q,hi,rfl,hQ,hS⟩:=hrel
  by_cases hlt:i<k
  ·have hQ2:=hQ.step (by omega) (by omega)
   have HQ:=AD hQ2
   clear hQ hQ2
   repeat' (first
    | refine X1 ?_|refine X4 13 ?_|refine AG ?_;go_step|fail)
   refine AQ [21,23] (fun w=>St W w (CW g n c Q::rs')) AA ?_
   replace hS:=hS.drew
   focus
    refine Ab 0 ?_
    refine Ab 1 ?_
    refine Ab 2 ?_
    (refine Bo 3 (.int _ (((a+i:Nat):Int))) Am AA AA AA Ch (V.as (V.addI rfl rfl (by omega)) (by omega)) AA ?_)
    go_step
    refine Ab 4 ?_
    refine Ab 5 ?_
    refine Ab 6 ?_
    (refine Bo 7 (.int _ (((b+i:Nat):Int))) Am AA AA AA Ch (V.as (V.addI rfl rfl (by omega)) (by omega)) AA ?_)
    go_step
    refine Ab 8 ?_
    refine Ab 9 ?_
    refine Ab 10 ?_
    (refine Bo 11 (.int _ (((b+i:Nat):Int))) Am AA AA AA Ch (V.as (V.addI rfl rfl (by omega)) (by omega)) AA ?_)
    go_step
    refine Y5 12 ?_
    refine NM 13 [20,21,22,23] ?_
    refine Ab 14 ?_
    refine Ab 15 ?_
    refine Ab 16 ?_
    (refine Bo 17 (.int _ (((a+i:Nat):Int))) Am AA AA AA Ch (V.as (V.addI rfl rfl (by omega)) (by omega)) AA ?_)
    go_step
    refine Y5 18 ?_
    refine NM 19 [20,21,22,23] ?_
    refine Y5 20 ?_
    refine Aa 21 ?_
    refine YK ?_;clear hS;intro w hS
    refine Y5 22 ?_
    refine Aa 23 ?_
    refine YK ?_;clear hS;intro w hS
    refine AE AA ?_ _
   repeat' (first
    | refine X0 ?_|refine TW 15 ?_|refine AG ?_;go_step|fail)
   go_roundg (gk-1)
   case measure=>omega
   case rel=>exact ⟨i+1,PA Q (a+i) (b+i),by omega,by go_num,HQ.out,hS⟩
  obtain rfl:i=k:=by omega
  repeat' (first
   | refine X1 ?_|refine X4 13 ?_|refine AG ?_;go_step|fail)
  go_end0
  exact ⟨rfl,Q,hQ,hS⟩
theorem KP(W w0:World)(rs rs':List Au)(g n c a m b:Nat)(P:List DN)(hS:St W w0 rs)(hp:AT (CW g n c P) rs rs')(ham:a<m)(hmb:m<b)(hb:b≤n)(hn:n≤1000000)(K:Value):
 Calls Tryz.prog 145 #[.slice (some ⟨g,0,none⟩) n c, .int .i64 a, .int .i64 m, .int .i64 b,K] w0 fun e w=>e= .returned (.tuple #[])∧∃Q,NL a m b P Q∧St W w (CW g n c Q::rs'):=by
 replace hS:=hS.pull hp
 have hPl:=EB hS AT.head Ct (by decide)
 obtain ⟨A0,U0,V0,B0,hP,hA0,hU0,hV0⟩:∃A U Y B:List DN,P=A++(U++(Y++B))∧A.length=a∧U.length=m-a∧Y.length=b-m:=
  ⟨P.take a,(P.drop a).take (m-a),((P.drop a).drop (m-a)).take (b-m),((P.drop a).drop (m-a)).drop (b-m),by rw [List.take_append_drop,List.take_append_drop,List.take_append_drop],by simp;omega,by simp;omega,by simp;omega⟩
 have HG:Hid (∀Q,Q=A0++(V0++(U0++B0))→NL a m b P Q):=fun Q h=>⟨A0,U0,V0,B0,hP,h,hA0,hU0,hV0⟩
 obtain ⟨T,hT⟩:∃T,A0++(V0++(U0++B0))=T:=⟨_,rfl⟩
 rw [hT] at HG
 rw [hP] at hS hPl
 clear hP hp
 go_enter Tryz.func145,Tryz.ntmps145
 repeat' (first
  | (refine AS 14 ?_);(refine Ak (.int _ (((m-a:Nat):Int))) (V.as (V.subI rfl rfl (by omega)) (by omega)) (by kernel_rfl) ?_;go_step)|(refine AS 17 ?_);(refine Ak (.int _ (((b-m:Nat):Int))) (V.as (V.subI rfl rfl (by omega)) (by omega)) (by kernel_rfl) ?_;go_step)|refine X0 ?_|refine AG ?_;go_step|fail)
 go_loopg [10,11] (b-a) (fun gk iv jv w=>∃(i j x:Nat) (A U Y B:List DN),gk=i+j∧iv= .int .i64 i∧jv= .int .i64 j∧A.length=x∧U.length=i∧Y.length=j∧x+i=m∧m+j≤b∧1≤i∧1≤j∧A++(Y++(U++B))=T∧St W w (CW g n c (A++(U++(Y++B)))::rs'))
 case atStart=>exact ⟨m-a,b-m,a,A0,U0,V0,B0,by omega,rfl,rfl,hA0,hU0,hV0,by omega,by omega,by omega,by omega,hT,hS⟩
 case round=>
  clear hS hT hU0 hV0 hA0 hPl
  obtain ⟨i,j,x,A,U,Y,B,hk,rfl,rfl,hA,hU,hV,hxm,hmj,hi1,hj1,hT,hS⟩:=hrel
  by_cases hij:i=j
  ·repeat' (first
    | refine X1 ?_|refine JE 20 ?_|refine AG ?_;go_step|fail)
   repeat' (first
    | refine ZR 53 ?_|(refine A3 154 ?_);refine A4 AA Tryz.call154 (Eb W _ _ rs' g n c x m i _ hS AT.head (by omega) (by omega) hn K) ?_;rintro e w ⟨rfl,Q,hQ,hS2⟩;replace hS:=hS2;clear hS2;refine Ae ?_;go_step|refine X1 ?_|refine AG ?_;go_step|fail)
   go_end0
   refine ⟨rfl,Q,HG.out Q ?_,hS⟩
   rw [←hxm,←hA] at hQ
   rw [hij] at hQ
   obtain ⟨U1,U2,e1,e2,e3,e4,e5⟩:=NL.left (hij▸ hU) hV (Nat.le_refl _) hQ
   have:U2=[]:=List.eq_nil_of_length_eq_zero (by omega)
   subst this
   rw [e4,←hT,e5]
   simp
  by_cases hlt:j<i
  ·repeat' (first
    | refine X1 ?_|refine JE 20 ?_|refine ME 23 ?_|refine AG ?_;go_step|fail)
   repeat' (first
    | refine ZR 27 ?_|(refine AS 34 ?_);(refine Ak (.int _ (((i-j:Nat):Int))) (V.as (V.subI rfl rfl (by omega)) (by omega)) (by kernel_rfl) ?_;go_step)|(refine A3 154 ?_);refine A4 AA Tryz.call154 (Eb W _ _ rs' g n c x m j _ hS AT.head (by omega) (by omega) hn K) ?_;rintro e w ⟨rfl,Q,hQ,hS2⟩;replace hS:=hS2;clear hS2;refine Ae ?_;go_step|refine X0 ?_|refine AG ?_;go_step|fail)
   rw [←hxm,←hA] at hQ
   obtain ⟨U1,U2,e1,e2,e3,e4,e5⟩:=NL.left hU hV (by omega) hQ
   rw [e4] at hS
   rw [e5] at hT
   clear hQ e1 e4 e5
   go_roundg (gk-j)
   case measure=>omega
   case rel=>exact ⟨i-j,j,x+j,A++Y,U2,U1,B,by omega,rfl,rfl,by simp;omega,e3,e2,by omega,by omega,by omega,by omega,hT,hS⟩
  repeat' (first
   | refine X1 ?_|refine JE 20 ?_|refine ME 23 ?_|refine AG ?_;go_step|fail)
  repeat' (first
   | refine ZR 38 ?_|(refine AS 43 ?_);(refine Ak (.int _ (((x+j:Nat):Int))) (V.as (V.subI rfl rfl (by omega)) (by omega)) (by kernel_rfl) ?_;go_step)|(refine AS 49 ?_);(refine Ak (.int _ (((j-i:Nat):Int))) (V.as (V.subI rfl rfl (by omega)) (by omega)) (by kernel_rfl) ?_;go_step)|(refine A3 154 ?_);refine A4 AA Tryz.call154 (Eb W _ _ rs' g n c x (x+j) i _ hS AT.head (by omega) (by omega) hn K) ?_;rintro e w ⟨rfl,Q,hQ,hS2⟩;replace hS:=hS2;clear hS2;refine Ae ?_;go_step|refine X0 ?_|refine TW 41 ?_|refine AG ?_;go_step|fail)
  rw [←hA] at hQ
  obtain ⟨V1,V2,e1,e2,e3,e4,e5⟩:=NL.right hU hV (by omega) hQ
  rw [e4] at hS
  rw [e5] at hT
  clear hQ e1 e4 e5
  go_roundg (gk-i)
  case measure=>omega
  case rel=>exact ⟨i,j-i,x,A,V2,V1,U++B,by omega,rfl,rfl,hA,e3,e2,by omega,by omega,by omega,by omega,hT,hS⟩
abbrev aw:Value:= .func (.func 104) #[] #[]
abbrev wk(P:List DN)(i:Nat):Int:=(Ao P i).w
theorem G5(x y:Int):K7 x y<0↔x<y:=by unfold K7;constructor<;>intro h<;>(repeat' split at h)<;>(repeat' split)<;>omega
theorem Iy(W w0:World)(rs rs':List Au)(g n c a b:Nat)(P:List DN)(hS:St W w0 rs)(hp:AT (CW g n c P) rs rs')(hab:a≤b)(hb:b≤n)(hn:n≤1000000):
 Calls Tryz.prog 138 #[.slice (some ⟨g,0,none⟩) n c, .int .i64 a, .int .i64 b,aw] w0 fun e w=>e= .returned (.tuple #[])∧∃Q,Dl DN.w a b Q∧Rg a b P Q∧St W w (CW g n c Q::rs'):=by
 replace hS:=hS.pull hp
 have he:=Ct
 have h1e:=Mg
 have hPl:=EB hS AT.head Ct (by decide)
 go_enter Tryz.func138,Tryz.ntmps138
 repeat' (first
  | (refine AS 11 ?_);(refine Ak (.int _ (((a+1:Nat):Int))) (V.as (V.addI rfl rfl (by omega)) (by omega)) (by kernel_rfl) ?_;go_step)|refine X0 ?_|refine AG ?_;go_step|fail)
 go_loopg [8] (b-a) (fun gk iv w=>∃(i:Nat) (Q:List DN),gk+i=b+1∧a<i∧iv= .int .i64 i∧Dl DN.w a i Q∧Rg a b P Q∧St W w (CW g n c Q::rs'))
 case atStart=>exact ⟨a+1,P,by omega,by omega,rfl,fun x y h1 h2 h3=>by rw [show x=y by omega];exact Int.le_refl _,Rg.refl a b P,hS⟩
 case round=>
  clear hS
  obtain ⟨i,Q,hi,hai,rfl,hA,hR,hS⟩:=hrel
  by_cases hlt:i<b
  ·obtain ⟨gk1,hgk1⟩:∃x,x=gk:=⟨_,rfl⟩
   subst hgk1
   have hQl:=hR.len
   have HA:=AD hA
   have HR:=AD hR
   clear hA hR
   repeat' (first
    | refine X0 ?_|refine X4 14 ?_|refine AG ?_;go_step|fail)
   repeat' (first
    | refine AG ?_;go_step|fail)
   go_loopg [9] (i-a) (fun gk jv w=>∃(j:Nat) (Z:List DN),gk+a=j∧j≤i∧jv= .int .i64 j∧Dn i j Q Z∧(j<i→wk Q i≤wk Q j)∧Rg a b P Z∧St W w (CW g n c Z::rs'))
   case atStart=>exact ⟨i,Q,by omega,by omega,rfl,Dn.refl i Q,fun h=>by omega,HR.out,hS⟩
   case round=>
    clear hS
    obtain ⟨j,Z,hj,hji,rfl,hD,hhi,hR,hS⟩:=hrel
    by_cases hja:a<j
    ·obtain ⟨q,rfl⟩:∃q,j=q+1:=⟨j-1,by omega⟩
     obtain ⟨v,hv⟩:∃v,K7 (Ao Z (q+1)).w (Ao Z q).w=v:=⟨_,rfl⟩
     have hv2:=G5 (Ao Z (q+1)).w (Ao Z q).w
     rw [hv] at hv2
     rw [hD.eq,hD.lo q (by omega)] at hv2
     have HV:=AD hv
     have HV2:=AD hv2
     have HD:=AD hD
     have HR2:=AD hR
     have HH:=AD hhi
     clear hv hv2 hD hR hhi
     repeat' (first
      | refine AG ?_;go_step|fail)
     refine AQ [14] (fun w=>St W w (CW g n c Z::rs')) AA ?_
     replace hS:=hS.drew
     focus
      refine Ab 0 ?_
      refine Ab 1 ?_
      (refine Yc 2 _ Am AA AA AA Ch (V.gtr rfl rfl) AA (fun hB=>?_) (fun hB=>?_))
      rotate_left 1
      focus
       (try exact AW)
       all_goals
        go_step
        refine Ab 3 ?_
        refine JJ 4 ?_
        refine JJ 5 ?_
        refine JJ 6 ?_
        refine JJ 7 ?_
        refine JJ 8 ?_
        refine JJ 9 ?_
        refine JJ 10 ?_
        refine JJ 11 ?_
        refine JJ 12 ?_
        refine JJ 13 ?_
        refine JJ 14 ?_
        refine JJ 15 ?_
        refine Lt 16 Am AA AA AA Ch rfl AA ?_
        go_step
        refine AE AA ?_ _
      rotate_right 1
      focus
       (try exact AW)
       all_goals
        go_step
        refine Ab 3 ?_
        refine Ab 4 ?_
        refine Ab 5 ?_
        refine Ab 6 ?_
        refine Y5 7 ?_
        refine NM 8 [14,15,16] ?_
        refine Ab 9 ?_
        refine Ab 10 ?_
        (refine Bo 11 (.int _ (((q:Nat):Int))) Am AA AA AA Ch (V.as (V.subI rfl rfl (by omega)) (by omega)) AA ?_)
        go_step
        refine Y5 12 ?_
        refine NM 13 [14,15,16] ?_
        refine Aa 14 ?_
        refine BQ (f:=104) rfl rfl Tryz.call104 (DA _ (Ao Z (q+1)) (Ao Z q)) ?_;rintro e w ⟨rfl,hE⟩;replace hS:=hS.ext hE;clear hE;rw [HV.out];refine ⟨_,rfl,?_⟩
        refine ⟨fun h=>absurd (by decide) h,?_⟩
        refine AF ?_
        go_step
        refine Bf 15 BU (V.lss rfl rfl) ?_;go_step
        refine Sp 16 Am AA AA AA Ch rfl AA ?_
        go_step
        refine AE AA ?_ _
     by_cases hc:v<0
     ·repeat' (first
       | refine AG ?_;go_step|fail)
      refine AQ [15,17] (fun w=>St W w (CW g n c Z::rs')) AA ?_
      replace hS:=hS.drew
      focus
       refine Ab 0 ?_
       refine Ab 1 ?_
       refine Ab 2 ?_
       refine Ab 3 ?_
       (refine Bo 4 (.int _ (((q:Nat):Int))) Am AA AA AA Ch (V.as (V.subI rfl rfl (by omega)) (by omega)) AA ?_)
       go_step
       refine Ab 5 ?_
       refine Ab 6 ?_
       (refine Bo 7 (.int _ (((q:Nat):Int))) Am AA AA AA Ch (V.as (V.subI rfl rfl (by omega)) (by omega)) AA ?_)
       go_step
       refine Y5 8 ?_
       refine NM 9 [14,15,16,17] ?_
       refine Ab 10 ?_
       refine Ab 11 ?_
       refine Y5 12 ?_
       refine NM 13 [14,15,16,17] ?_
       refine Y5 14 ?_
       refine Aa 15 ?_
       refine YK ?_;clear hS;intro w hS
       refine Y5 16 ?_
       refine Aa 17 ?_
       refine YK ?_;clear hS;intro w hS
       refine AE AA ?_ _
      repeat' (first
       | (refine AS 36 ?_);(refine Ak (.int _ (((q:Nat):Int))) (V.as (V.subI rfl rfl (by omega)) (by omega)) (by kernel_rfl) ?_;go_step)|refine X0 ?_|refine AG ?_;go_step|fail)
      go_roundg (gk-1)
      case measure=>omega
      case rel=>exact ⟨q,PA Z (q+1) q,by omega,by omega,by go_num,HD.out.step (by omega) (by omega) (by omega),fun _=>by have:=HV2.out.1 hc;exact Int.le_of_lt this,HR2.out.trans (Mv _ _ _ _ _ (by omega) (by omega) (by omega) (by omega) (by rw [HR2.out.len];omega)),hS⟩
     repeat' (first
      | refine Zg 16 ?_|refine X0 ?_|refine AG ?_;go_step|fail)
     go_roundg (gk1-1)
     case measure=>omega
     case rel=>
      refine ⟨i+1,Z,by omega,by omega,by go_num,HD.out.asc HA.out (by omega) (by omega) (fun _=>?_) (fun _=>HH.out (by omega)),HR2.out,hS⟩
      have:=HV2.out
      show (Ao Q (q+1-1)).w≤(Ao Q i).w
      rw [Nat.add_sub_cancel]
      omega
    obtain rfl:j=a:=by omega
    repeat' (first
     | refine AG ?_;go_step|fail)
    refine AQ [14] (fun w=>St W w (CW g n c Z::rs')) AA ?_
    replace hS:=hS.drew
    focus
     refine Ab 0 ?_
     refine Ab 1 ?_
     (refine Yc 2 _ Am AA AA AA Ch (V.gtr rfl rfl) AA (fun hB=>?_) (fun hB=>?_))
     rotate_left 1
     focus
      (try exact AW)
      all_goals
       go_step
       refine Ab 3 ?_
       refine JJ 4 ?_
       refine JJ 5 ?_
       refine JJ 6 ?_
       refine JJ 7 ?_
       refine JJ 8 ?_
       refine JJ 9 ?_
       refine JJ 10 ?_
       refine JJ 11 ?_
       refine JJ 12 ?_
       refine JJ 13 ?_
       refine JJ 14 ?_
       refine JJ 15 ?_
       refine Lt 16 Am AA AA AA Ch rfl AA ?_
       go_step
       refine AE AA ?_ _
     rotate_right 1
     focus
      (try exact AW)
    repeat' (first
     | refine Zg 16 ?_|refine X0 ?_|refine AG ?_;go_step|fail)
    go_roundg (gk1-1)
    case measure=>omega
    case rel=>exact ⟨i+1,Z,by omega,by omega,by go_num,hD.asc HA.out (by omega) (by omega) (fun _=>by omega) (fun _=>hhi (by omega)),hR,hS⟩
  repeat' (first
   | refine X1 ?_|refine X4 14 ?_|refine AG ?_;go_step|fail)
  go_end0
  exact ⟨rfl,Q,hA.sub (Nat.le_refl _) (by omega),hR,hS⟩
end Go.Proofs.YtohacgmhmbijmaaGreatDoor
