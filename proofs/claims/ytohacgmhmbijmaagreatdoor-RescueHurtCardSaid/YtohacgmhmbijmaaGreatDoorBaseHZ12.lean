/- What the laws RescueHurt need, part 12. -/
import Derived.Test.YtohacgmhmbijmaaGreatDoorBaseHZ2
import Derived.Test.YtohacgmhmbijmaaGreatDoorBaseHZ3
import Derived.Test.YtohacgmhmbijmaaGreatDoorBaseHZ11
namespace Go.Proofs.YtohacgmhmbijmaaGreatDoor
attribute [local irreducible] Region.wanted
open Go.RowKit
set_option linter.unusedVariables false
set_option maxRecDepth 100000
set_option maxHeartbeats 8000000
def Ln(x y:Int):Int:=if x<y then -1 else if y<x then 1 else 0
theorem Te(w:World)(x:Int):Calls Tryz.prog 140 #[.int .i64 x] w fun e w'=>e= .returned (.bool false)∧Ai w w':=by
 have hS:=St.start w
 go_enter Tryz.func140,Tryz.ntmps140
 repeat' (first
  | refine X0 ?_|refine Ju ?_|refine AG ?_;go_step|fail)
 all_goals go_ret
 all_goals exact ⟨by simp,hS.1⟩
theorem OW(w:World)(x y:Int):Calls Tryz.prog 132 #[.int .i64 x, .int .i64 y] w fun e w'=>e= .returned (.int .i64 (Ln x y))∧Ai w w':=by
 have hS:=St.start w
 go_enter Tryz.func132,Tryz.ntmps132
 repeat' (first
  | (refine As 140 ?_);refine At AA Tryz.call140 (Te _ _) (Fp hS ?_);clear hS;intro w hS;go_step|refine X0 ?_|refine X2 ?_|refine H3 ?_|refine AG ?_;go_step|fail)
 all_goals go_ret
 all_goals (refine ⟨?_,hS.1⟩;unfold Ln;first|(rw [if_pos (by omega)];rfl)|(rw [if_neg (by omega),if_pos (by omega)];rfl)|(rw [if_neg (by omega),if_neg (by omega)];rfl))
theorem DI(w:World)(p q:DY):Calls Tryz.prog 104 #[.agg (L3 p).toArray, .agg (L3 q).toArray] w fun e w'=>e= .returned (.int .i64 (Ln p.w q.w))∧Ai w w':=by
 have hS:=St.start w
 obtain ⟨x,ap,np,cp⟩:=p
 obtain ⟨y,aq,nq,cq⟩:=q
 simp only [L3]
 go_enter Tryz.func104,Tryz.ntmps104
 repeat' (first
  | (refine As 132 ?_);refine At AA Tryz.call132 (OW _ _ _) (Fp hS ?_);clear hS;intro w hS;go_step|refine X8 ?_|(with_reducible refine Ak _ (.fieldAddr 159 _ 0) ?_);(refine An AA (V.fieldAddr NI rfl A7) ?_;go_step)|(refine AQ 2 ?_);(refine Ad ?_;apply CS (o:=⟨some 2,_,_,_,_,_⟩) hS 159 _ rfl _ rfl;clear hS;intro g2 w hS;refine AB ?_;go_step)|(refine AQ 3 ?_);(refine Ad ?_;apply CS (o:=⟨some 3,_,_,_,_,_⟩) hS 159 _ rfl _ rfl;clear hS;intro g3 w hS;refine AB ?_;go_step)|refine X9 ?_|refine AG ?_;go_step|fail)
 all_goals go_ret
 all_goals exact ⟨rfl,hS.1⟩
abbrev Cb(g n c:Nat)(P:List DY):Ar:=own 159 2 (some ⟨g,0,none⟩) n c (P.flatMap L3)
theorem E6(W w0:World)(rs rs':List Ar)(g n c a b k:Nat)(P:List DY)(hS:St W w0 rs)(hp:AT (Cb g n c P) rs rs')(hab:a+k≤b)(hb:b+k≤n)(hn:n≤1000000)(K:Value):
 Calls Tryz.prog 154 #[.slice (some ⟨g,0,none⟩) n c, .int .i64 a, .int .i64 b, .int .i64 k,K] w0 fun e w=>e= .returned (.tuple #[])∧∃Q,RP a b k P Q∧St W w (Cb g n c Q::rs'):=by
 replace hS:=hS.pull hp
 have he:=Cx
 have h1e:=NZ
 have hPl:=EY hS AT.head Cx (by decide)
 go_enter Tryz.func154,Tryz.ntmps154
 repeat' (first
  | refine X8 ?_|refine AG ?_;go_step|fail)
 go_loopg [10] k (fun gk iv w=>∃(i:Nat) (Q:List DY),gk+i=k∧iv= .int .i64 i∧RP a b i P Q∧St W w (Cb g n c Q::rs'))
 case atStart=>exact ⟨0,P,by omega,rfl,RP.refl a b P,hS⟩
 case round=>
  clear hS
  obtain ⟨i,Q,hi,rfl,hQ,hS⟩:=hrel
  by_cases hlt:i<k
  ·have hQ2:=hQ.step (by omega) (by omega)
   have HQ:=AD hQ2
   clear hQ hQ2
   repeat' (first
    | refine X1 ?_|refine X5 13 ?_|refine AG ?_;go_step|fail)
   refine AP [21,23] (fun w=>St W w (Cb g n c Q::rs')) AA ?_
   replace hS:=hS.drew
   focus
    refine AZ 0 ?_
    refine AZ 1 ?_
    refine AZ 2 ?_
    (refine BV 3 (.int _ (((a+i:Nat):Int))) Aj AA AA AA Be (V.as (V.addI rfl rfl (by omega)) (by omega)) AA ?_)
    go_step
    refine AZ 4 ?_
    refine AZ 5 ?_
    refine AZ 6 ?_
    (refine BV 7 (.int _ (((b+i:Nat):Int))) Aj AA AA AA Be (V.as (V.addI rfl rfl (by omega)) (by omega)) AA ?_)
    go_step
    refine AZ 8 ?_
    refine AZ 9 ?_
    refine AZ 10 ?_
    (refine BV 11 (.int _ (((b+i:Nat):Int))) Aj AA AA AA Be (V.as (V.addI rfl rfl (by omega)) (by omega)) AA ?_)
    go_step
    refine Y4 12 ?_
    refine Y6 13 [20,21,22,23] ?_
    refine AZ 14 ?_
    refine AZ 15 ?_
    refine AZ 16 ?_
    (refine BV 17 (.int _ (((a+i:Nat):Int))) Aj AA AA AA Be (V.as (V.addI rfl rfl (by omega)) (by omega)) AA ?_)
    go_step
    refine Y4 18 ?_
    refine Y6 19 [20,21,22,23] ?_
    refine Y4 20 ?_
    refine Av 21 ?_
    refine Zr ?_;clear hS;intro w hS
    refine Y4 22 ?_
    refine Av 23 ?_
    refine Zr ?_;clear hS;intro w hS
    refine AE AA ?_ _
   repeat' (first
    | refine X0 ?_|refine Mx 15 ?_|refine AG ?_;go_step|fail)
   go_roundg (gk-1)
   case measure=>omega
   case rel=>exact ⟨i+1,P3 Q (a+i) (b+i),by omega,by go_num,HQ.out,hS⟩
  obtain rfl:i=k:=by omega
  repeat' (first
   | refine X1 ?_|refine X5 13 ?_|refine AG ?_;go_step|fail)
  go_end0
  exact ⟨rfl,Q,hQ,hS⟩
theorem K4(W w0:World)(rs rs':List Ar)(g n c a m b:Nat)(P:List DY)(hS:St W w0 rs)(hp:AT (Cb g n c P) rs rs')(ham:a<m)(hmb:m<b)(hb:b≤n)(hn:n≤1000000)(K:Value):
 Calls Tryz.prog 145 #[.slice (some ⟨g,0,none⟩) n c, .int .i64 a, .int .i64 m, .int .i64 b,K] w0 fun e w=>e= .returned (.tuple #[])∧∃Q,OB a m b P Q∧St W w (Cb g n c Q::rs'):=by
 replace hS:=hS.pull hp
 have hPl:=EY hS AT.head Cx (by decide)
 obtain ⟨A0,U0,V0,B0,hP,hA0,hU0,hV0⟩:∃A U Y B:List DY,P=A++(U++(Y++B))∧A.length=a∧U.length=m-a∧Y.length=b-m:=
  ⟨P.take a,(P.drop a).take (m-a),((P.drop a).drop (m-a)).take (b-m),((P.drop a).drop (m-a)).drop (b-m),by rw [List.take_append_drop,List.take_append_drop,List.take_append_drop],by simp;omega,by simp;omega,by simp;omega⟩
 have HG:Hid (∀Q,Q=A0++(V0++(U0++B0))→OB a m b P Q):=fun Q h=>⟨A0,U0,V0,B0,hP,h,hA0,hU0,hV0⟩
 obtain ⟨T,hT⟩:∃T,A0++(V0++(U0++B0))=T:=⟨_,rfl⟩
 rw [hT] at HG
 rw [hP] at hS hPl
 clear hP hp
 go_enter Tryz.func145,Tryz.ntmps145
 repeat' (first
  | (refine AQ 14 ?_);(refine Ag (.int _ (((m-a:Nat):Int))) (V.as (V.subI rfl rfl (by omega)) (by omega)) (by kernel_rfl) ?_;go_step)|(refine AQ 17 ?_);(refine Ag (.int _ (((b-m:Nat):Int))) (V.as (V.subI rfl rfl (by omega)) (by omega)) (by kernel_rfl) ?_;go_step)|refine X0 ?_|refine AG ?_;go_step|fail)
 go_loopg [10,11] (b-a) (fun gk iv jv w=>∃(i j x:Nat) (A U Y B:List DY),gk=i+j∧iv= .int .i64 i∧jv= .int .i64 j∧A.length=x∧U.length=i∧Y.length=j∧x+i=m∧m+j≤b∧1≤i∧1≤j∧A++(Y++(U++B))=T∧St W w (Cb g n c (A++(U++(Y++B)))::rs'))
 case atStart=>exact ⟨m-a,b-m,a,A0,U0,V0,B0,by omega,rfl,rfl,hA0,hU0,hV0,by omega,by omega,by omega,by omega,hT,hS⟩
 case round=>
  clear hS hT hU0 hV0 hA0 hPl
  obtain ⟨i,j,x,A,U,Y,B,hk,rfl,rfl,hA,hU,hV,hxm,hmj,hi1,hj1,hT,hS⟩:=hrel
  by_cases hij:i=j
  ·repeat' (first
    | refine X1 ?_|refine Fe 20 ?_|refine AG ?_;go_step|fail)
   repeat' (first
    | refine bC 53 ?_|(refine As 154 ?_);refine At AA Tryz.call154 (E6 W _ _ rs' g n c x m i _ hS AT.head (by omega) (by omega) hn K) ?_;rintro e w ⟨rfl,Q,hQ,hS2⟩;replace hS:=hS2;clear hS2;refine Ac ?_;go_step|refine X1 ?_|refine AG ?_;go_step|fail)
   go_end0
   refine ⟨rfl,Q,HG.out Q ?_,hS⟩
   rw [←hxm,←hA] at hQ
   rw [hij] at hQ
   obtain ⟨U1,U2,e1,e2,e3,e4,e5⟩:=OB.left (hij▸ hU) hV (Nat.le_refl _) hQ
   have:U2=[]:=List.eq_nil_of_length_eq_zero (by omega)
   subst this
   rw [e4,←hT,e5]
   simp
  by_cases hlt:j<i
  ·repeat' (first
    | refine X1 ?_|refine Fe 20 ?_|refine KN 23 ?_|refine AG ?_;go_step|fail)
   repeat' (first
    | refine bC 27 ?_|(refine AQ 34 ?_);(refine Ag (.int _ (((i-j:Nat):Int))) (V.as (V.subI rfl rfl (by omega)) (by omega)) (by kernel_rfl) ?_;go_step)|(refine As 154 ?_);refine At AA Tryz.call154 (E6 W _ _ rs' g n c x m j _ hS AT.head (by omega) (by omega) hn K) ?_;rintro e w ⟨rfl,Q,hQ,hS2⟩;replace hS:=hS2;clear hS2;refine Ac ?_;go_step|refine X0 ?_|refine AG ?_;go_step|fail)
   rw [←hxm,←hA] at hQ
   obtain ⟨U1,U2,e1,e2,e3,e4,e5⟩:=OB.left hU hV (by omega) hQ
   rw [e4] at hS
   rw [e5] at hT
   clear hQ e1 e4 e5
   go_roundg (gk-j)
   case measure=>omega
   case rel=>exact ⟨i-j,j,x+j,A++Y,U2,U1,B,by omega,rfl,rfl,by simp;omega,e3,e2,by omega,by omega,by omega,by omega,hT,hS⟩
  repeat' (first
   | refine X1 ?_|refine Fe 20 ?_|refine KN 23 ?_|refine AG ?_;go_step|fail)
  repeat' (first
   | refine bC 38 ?_|(refine AQ 43 ?_);(refine Ag (.int _ (((x+j:Nat):Int))) (V.as (V.subI rfl rfl (by omega)) (by omega)) (by kernel_rfl) ?_;go_step)|(refine AQ 49 ?_);(refine Ag (.int _ (((j-i:Nat):Int))) (V.as (V.subI rfl rfl (by omega)) (by omega)) (by kernel_rfl) ?_;go_step)|(refine As 154 ?_);refine At AA Tryz.call154 (E6 W _ _ rs' g n c x (x+j) i _ hS AT.head (by omega) (by omega) hn K) ?_;rintro e w ⟨rfl,Q,hQ,hS2⟩;replace hS:=hS2;clear hS2;refine Ac ?_;go_step|refine X0 ?_|refine Mx 41 ?_|refine AG ?_;go_step|fail)
  rw [←hA] at hQ
  obtain ⟨V1,V2,e1,e2,e3,e4,e5⟩:=OB.right hU hV (by omega) hQ
  rw [e4] at hS
  rw [e5] at hT
  clear hQ e1 e4 e5
  go_roundg (gk-i)
  case measure=>omega
  case rel=>exact ⟨i,j-i,x,A,V2,V1,U++B,by omega,rfl,rfl,hA,e3,e2,by omega,by omega,by omega,by omega,hT,hS⟩
abbrev dJ:Value:= .func (.func 104) #[] #[]
abbrev wk(P:List DY)(i:Nat):Int:=(Am P i).w
theorem IC(x y:Int):Ln x y<0↔x<y:=by unfold Ln;constructor<;>intro h<;>(repeat' split at h)<;>(repeat' split)<;>omega
theorem JW(W w0:World)(rs rs':List Ar)(g n c a b:Nat)(P:List DY)(hS:St W w0 rs)(hp:AT (Cb g n c P) rs rs')(hab:a≤b)(hb:b≤n)(hn:n≤1000000):
 Calls Tryz.prog 138 #[.slice (some ⟨g,0,none⟩) n c, .int .i64 a, .int .i64 b,dJ] w0 fun e w=>e= .returned (.tuple #[])∧∃Q,D6 DY.w a b Q∧Rg a b P Q∧St W w (Cb g n c Q::rs'):=by
 replace hS:=hS.pull hp
 have he:=Cx
 have h1e:=NZ
 have hPl:=EY hS AT.head Cx (by decide)
 go_enter Tryz.func138,Tryz.ntmps138
 repeat' (first
  | (refine AQ 11 ?_);(refine Ag (.int _ (((a+1:Nat):Int))) (V.as (V.addI rfl rfl (by omega)) (by omega)) (by kernel_rfl) ?_;go_step)|refine X0 ?_|refine AG ?_;go_step|fail)
 go_loopg [8] (b-a) (fun gk iv w=>∃(i:Nat) (Q:List DY),gk+i=b+1∧a<i∧iv= .int .i64 i∧D6 DY.w a i Q∧Rg a b P Q∧St W w (Cb g n c Q::rs'))
 case atStart=>exact ⟨a+1,P,by omega,by omega,rfl,fun x y h1 h2 h3=>by rw [show x=y by omega];exact Int.le_refl _,Rg.refl a b P,hS⟩
 case round=>
  clear hS
  obtain ⟨i,Q,hi,hai,rfl,hA,hR,hS⟩:=hrel
  by_cases hlt:i<b
  ·obtain ⟨gk1,hgk1⟩:∃x,x=gk:=⟨_,rfl⟩
   subst hgk1
   have hQl:=hR.len
   have HA:=AD hA
   have HR:=AD hR
   clear hA hR
   repeat' (first
    | refine X0 ?_|refine X5 14 ?_|refine AG ?_;go_step|fail)
   repeat' (first
    | refine AG ?_;go_step|fail)
   go_loopg [9] (i-a) (fun gk jv w=>∃(j:Nat) (Z:List DY),gk+a=j∧j≤i∧jv= .int .i64 j∧Dn i j Q Z∧(j<i→wk Q i≤wk Q j)∧Rg a b P Z∧St W w (Cb g n c Z::rs'))
   case atStart=>exact ⟨i,Q,by omega,by omega,rfl,Dn.refl i Q,fun h=>by omega,HR.out,hS⟩
   case round=>
    clear hS
    obtain ⟨j,Z,hj,hji,rfl,hD,hhi,hR,hS⟩:=hrel
    by_cases hja:a<j
    ·obtain ⟨q,rfl⟩:∃q,j=q+1:=⟨j-1,by omega⟩
     obtain ⟨v,hv⟩:∃v,Ln (Am Z (q+1)).w (Am Z q).w=v:=⟨_,rfl⟩
     have hv2:=IC (Am Z (q+1)).w (Am Z q).w
     rw [hv] at hv2
     rw [hD.eq,hD.lo q (by omega)] at hv2
     have HV:=AD hv
     have HV2:=AD hv2
     have HD:=AD hD
     have HR2:=AD hR
     have HH:=AD hhi
     clear hv hv2 hD hR hhi
     repeat' (first
      | refine AG ?_;go_step|fail)
     refine AP [14] (fun w=>St W w (Cb g n c Z::rs')) AA ?_
     replace hS:=hS.drew
     focus
      refine AZ 0 ?_
      refine AZ 1 ?_
      (refine Me 2 _ Aj AA AA AA Be (V.gtr rfl rfl) AA (fun hB=>?_) (fun hB=>?_))
      rotate_left 1
      focus
       (try exact AR)
       all_goals
        go_step
        refine AZ 3 ?_
        refine BT 4 ?_
        refine BT 5 ?_
        refine BT 6 ?_
        refine BT 7 ?_
        refine BT 8 ?_
        refine BT 9 ?_
        refine BT 10 ?_
        refine BT 11 ?_
        refine BT 12 ?_
        refine BT 13 ?_
        refine BT 14 ?_
        refine BT 15 ?_
        refine CF 16 Aj AA AA AA Be rfl AA ?_
        go_step
        refine AE AA ?_ _
      rotate_right 1
      focus
       (try exact AR)
       all_goals
        go_step
        refine AZ 3 ?_
        refine AZ 4 ?_
        refine AZ 5 ?_
        refine AZ 6 ?_
        refine Y4 7 ?_
        refine Y6 8 [14,15,16] ?_
        refine AZ 9 ?_
        refine AZ 10 ?_
        (refine BV 11 (.int _ (((q:Nat):Int))) Aj AA AA AA Be (V.as (V.subI rfl rfl (by omega)) (by omega)) AA ?_)
        go_step
        refine Y4 12 ?_
        refine Y6 13 [14,15,16] ?_
        refine Av 14 ?_
        refine BJ (f:=104) rfl rfl Tryz.call104 (DI _ (Am Z (q+1)) (Am Z q)) ?_;rintro e w ⟨rfl,hE⟩;replace hS:=hS.ext hE;clear hE;rw [HV.out];refine ⟨_,rfl,?_⟩
        refine ⟨fun h=>absurd (by decide) h,?_⟩
        refine AI ?_
        go_step
        refine BZ 15 BN (V.lss rfl rfl) ?_;go_step
        refine BS 16 Aj AA AA AA Be rfl AA ?_
        go_step
        refine AE AA ?_ _
     by_cases hc:v<0
     ·repeat' (first
       | refine AG ?_;go_step|fail)
      refine AP [15,17] (fun w=>St W w (Cb g n c Z::rs')) AA ?_
      replace hS:=hS.drew
      focus
       refine AZ 0 ?_
       refine AZ 1 ?_
       refine AZ 2 ?_
       refine AZ 3 ?_
       (refine BV 4 (.int _ (((q:Nat):Int))) Aj AA AA AA Be (V.as (V.subI rfl rfl (by omega)) (by omega)) AA ?_)
       go_step
       refine AZ 5 ?_
       refine AZ 6 ?_
       (refine BV 7 (.int _ (((q:Nat):Int))) Aj AA AA AA Be (V.as (V.subI rfl rfl (by omega)) (by omega)) AA ?_)
       go_step
       refine Y4 8 ?_
       refine Y6 9 [14,15,16,17] ?_
       refine AZ 10 ?_
       refine AZ 11 ?_
       refine Y4 12 ?_
       refine Y6 13 [14,15,16,17] ?_
       refine Y4 14 ?_
       refine Av 15 ?_
       refine Zr ?_;clear hS;intro w hS
       refine Y4 16 ?_
       refine Av 17 ?_
       refine Zr ?_;clear hS;intro w hS
       refine AE AA ?_ _
      repeat' (first
       | (refine AQ 36 ?_);(refine Ag (.int _ (((q:Nat):Int))) (V.as (V.subI rfl rfl (by omega)) (by omega)) (by kernel_rfl) ?_;go_step)|refine X0 ?_|refine AG ?_;go_step|fail)
      go_roundg (gk-1)
      case measure=>omega
      case rel=>exact ⟨q,P3 Z (q+1) q,by omega,by omega,by go_num,HD.out.step (by omega) (by omega) (by omega),fun _=>by have:=HV2.out.1 hc;exact Int.le_of_lt this,HR2.out.trans (Nq _ _ _ _ _ (by omega) (by omega) (by omega) (by omega) (by rw [HR2.out.len];omega)),hS⟩
     repeat' (first
      | refine bT 16 ?_|refine X0 ?_|refine AG ?_;go_step|fail)
     go_roundg (gk1-1)
     case measure=>omega
     case rel=>
      refine ⟨i+1,Z,by omega,by omega,by go_num,HD.out.asc HA.out (by omega) (by omega) (fun _=>?_) (fun _=>HH.out (by omega)),HR2.out,hS⟩
      have:=HV2.out
      show (Am Q (q+1-1)).w≤(Am Q i).w
      rw [Nat.add_sub_cancel]
      omega
    obtain rfl:j=a:=by omega
    repeat' (first
     | refine AG ?_;go_step|fail)
    refine AP [14] (fun w=>St W w (Cb g n c Z::rs')) AA ?_
    replace hS:=hS.drew
    focus
     refine AZ 0 ?_
     refine AZ 1 ?_
     (refine Me 2 _ Aj AA AA AA Be (V.gtr rfl rfl) AA (fun hB=>?_) (fun hB=>?_))
     rotate_left 1
     focus
      (try exact AR)
      all_goals
       go_step
       refine AZ 3 ?_
       refine BT 4 ?_
       refine BT 5 ?_
       refine BT 6 ?_
       refine BT 7 ?_
       refine BT 8 ?_
       refine BT 9 ?_
       refine BT 10 ?_
       refine BT 11 ?_
       refine BT 12 ?_
       refine BT 13 ?_
       refine BT 14 ?_
       refine BT 15 ?_
       refine CF 16 Aj AA AA AA Be rfl AA ?_
       go_step
       refine AE AA ?_ _
     rotate_right 1
     focus
      (try exact AR)
    repeat' (first
     | refine bT 16 ?_|refine X0 ?_|refine AG ?_;go_step|fail)
    go_roundg (gk1-1)
    case measure=>omega
    case rel=>exact ⟨i+1,Z,by omega,by omega,by go_num,hD.asc HA.out (by omega) (by omega) (fun _=>by omega) (fun _=>hhi (by omega)),hR,hS⟩
  repeat' (first
   | refine X1 ?_|refine X5 14 ?_|refine AG ?_;go_step|fail)
  go_end0
  exact ⟨rfl,Q,hA.sub (Nat.le_refl _) (by omega),hR,hS⟩
end Go.Proofs.YtohacgmhmbijmaaGreatDoor
