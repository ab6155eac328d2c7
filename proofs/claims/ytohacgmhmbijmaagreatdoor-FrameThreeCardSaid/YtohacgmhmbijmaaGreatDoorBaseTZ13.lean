/- What the laws FrameThree need, part 13. -/
import Derived.Test.YtohacgmhmbijmaaGreatDoorBaseTZ2
import Derived.Test.YtohacgmhmbijmaaGreatDoorBaseTZ3
import Derived.Test.YtohacgmhmbijmaaGreatDoorBaseTZ12
namespace Go.Proofs.YtohacgmhmbijmaaGreatDoor
attribute [local irreducible] Region.wanted
open Go.RowKit
set_option linter.unusedVariables false
set_option maxRecDepth 100000
set_option maxHeartbeats 8000000
theorem Hv(N:Nat):∀(W w0:World)(rs rs':List Au)(g n c a m b:Nat)(P:List DN),b-a≤N→St W w0 rs→AT (CW g n c P) rs rs'→a<m→m<b→b≤n→n≤1000000→Dl DN.w a m P→Dl DN.w m b P→
 Calls Tryz.prog 139 #[.slice (some ⟨g,0,none⟩) n c, .int .i64 a, .int .i64 m, .int .i64 b,aw] w0 fun e w=>e= .returned (.tuple #[])∧∃Q,Dl DN.w a b Q∧Rg a b P Q∧St W w (CW g n c Q::rs'):=by
 induction N with
 | zero=>intro W w0 rs rs' g n c a m b P hN;omega
 | succ N ih=>
 intro W w0 rs rs' g n c a m b P hN hS hp ham hmb hb hn hA1 hA2
 replace hS:=hS.pull hp
 have he:=Ct
 have h1e:=Mg
 have hPl:=EB hS AT.head Ct (by decide)
 have IH:=AD ih
 have HA1:=AD hA1
 have HA2:=AD hA2
 clear ih hA1 hA2
 by_cases h1:m-a=1
 ·obtain rfl:m=a+1:=by omega
  go_enter Tryz.func139,Tryz.ntmps139
  repeat' (first
   | (refine AS 27 ?_);(refine Ak (.int _ (1)) (V.as (V.subI rfl rfl (by omega)) (by omega)) (by kernel_rfl) ?_;go_step)|refine X0 ?_|refine K1 28 ?_|refine AG ?_;go_step|fail)
  go_loopg [10,11] (b-(a+1)) (fun gk iv jv w=>∃(i j:Nat),gk+i=j∧a+1≤i∧j≤b∧iv= .int .i64 i∧jv= .int .i64 j∧(∀x,a+1≤x→x<i→wk P x≤wk P a)∧(∀x,j≤x→x<b→wk P a≤wk P x)∧St W w (CW g n c P::rs'))
  case atStart=>exact ⟨a+1,b,by omega,by omega,by omega,rfl,rfl,fun x h1 h2=>by omega,fun x h1 h2=>by omega,hS⟩
  case round=>
   clear hS
   obtain ⟨i,j,hk,hi,hj,rfl,rfl,hlo,hhi,hS⟩:=hrel
   have HLO:=AD hlo
   have HHI:=AD hhi
   clear hlo hhi
   by_cases hlt:i<j
   ·obtain ⟨h,hh⟩:∃h,h=(i+j)/2:=⟨_,rfl⟩
    obtain ⟨v,hv⟩:∃v,K7 (Ao P h).w (Ao P a).w=v:=⟨_,rfl⟩
    have hv2:=G5 (Ao P h).w (Ao P a).w
    rw [hv] at hv2
    have HV:=AD hv
    have HV2:=AD hv2
    clear hv hv2
    repeat' (first
     | (refine AS 36 ?_);(refine Ak (.int _ (((i+j:Nat):Int))) (V.as (V.addI rfl rfl (by omega)) (by omega)) (by kernel_rfl) ?_;go_step)|refine WO 38 ?_|refine X0 ?_|refine X4 33 ?_|refine ai 37 ?_|refine ah 39 ?_|refine AG ?_;go_step|fail)
    refine AQ [9] (fun w=>St W w (CW g n c P::rs')) AA ?_
    replace hS:=hS.drew
    focus
     refine Ab 0 ?_
     refine Ab 1 ?_
     refine Ab 2 ?_
     refine Y5 3 ?_
     refine NM 4 [9,10] ?_
     refine Ab 5 ?_
     refine Ab 6 ?_
     refine Y5 7 ?_
     refine NM 8 [9,10] ?_
     refine Aa 9 ?_
     refine BQ (f:=104) rfl rfl Tryz.call104 (DA _ (Ao P h) (Ao P a)) ?_;rintro e w ⟨rfl,hE⟩;replace hS:=hS.ext hE;clear hE;rw [HV.out];refine ⟨_,rfl,?_⟩
     refine ⟨fun h=>absurd (by decide) h,?_⟩
     refine AF ?_
     go_step
     refine Bf 10 BU (V.lss rfl rfl) ?_;go_step
     refine AE AA ?_ _
    by_cases hc:v<0
    ·repeat' (first
      | refine WN 52 ?_|refine X0 ?_|refine AG ?_;go_step|fail)
     go_roundg (j-(h+1))
     case measure=>omega
     case rel=>
      refine ⟨h+1,j,by omega,by omega,by omega,by go_num,rfl,fun x k1 k2=>?_,HHI.out,hS⟩
      have:=HA2.out x h k1 (by omega) (by omega)
      have:=HV2.out.1 hc
      show (Ao P x).w≤(Ao P a).w
      omega
    repeat' (first
     | refine X0 ?_|refine AG ?_;go_step|fail)
    go_roundg (h-i)
    case measure=>omega
    case rel=>
     refine ⟨i,h,by omega,by omega,by omega,rfl,by go_num,HLO.out,fun x k1 k2=>?_,hS⟩
     have:=HA2.out h x (by omega) k1 (by omega)
     have:=HV2.out
     show (Ao P a).w≤(Ao P x).w
     omega
   obtain rfl:i=j:=by omega
   obtain ⟨p,rfl⟩:∃p,i=p+1:=⟨i-1,by omega⟩
   repeat' (first
    | refine X0 ?_|refine X4 33 ?_|refine AG ?_;go_step|fail)
   repeat' (first
    | refine AG ?_;go_step|fail)
   go_loopg [13] (p-a) (fun gk kv w=>∃(k:Nat) (Q:List DN),gk+k=p∧a≤k∧kv= .int .i64 k∧Vz a k P Q∧Rg a b P Q∧St W w (CW g n c Q::rs'))
   case atStart=>exact ⟨a,P,by omega,by omega,rfl,Vz.refl a P,Rg.refl a b P,hS⟩
   case round=>
    clear hS
    obtain ⟨k,Q,hk2,hak,rfl,hU,hR,hS⟩:=hrel
    have HU:=AD hU
    have HR:=AD hR
    clear hU hR
    by_cases hlt2:k<p
    ·repeat' (first
      | (refine AS 57 ?_);(refine Ak (.int _ (((p:Nat):Int))) (V.as (V.subI rfl rfl (by omega)) (by omega)) (by kernel_rfl) ?_;go_step)|refine X1 ?_|refine X4 58 ?_|refine AG ?_;go_step|fail)
     refine AQ [15,17] (fun w=>St W w (CW g n c Q::rs')) AA ?_
     replace hS:=hS.drew
     focus
      refine Ab 0 ?_
      refine Ab 1 ?_
      refine Ab 2 ?_
      refine Ab 3 ?_
      (refine Bo 4 (.int _ (((k+1:Nat):Int))) Am AA AA AA Ch (V.as (V.addI rfl rfl (by omega)) (by omega)) AA ?_)
      go_step
      refine Ab 5 ?_
      refine Ab 6 ?_
      (refine Bo 7 (.int _ (((k+1:Nat):Int))) Am AA AA AA Ch (V.as (V.addI rfl rfl (by omega)) (by omega)) AA ?_)
      go_step
      refine Y5 8 ?_
      refine NM 9 [14,15,16,17] ?_
      refine Ab 10 ?_
      refine Ab 11 ?_
      refine Y5 12 ?_
      refine NM 13 [14,15,16,17] ?_
      refine Y5 14 ?_
      refine Aa 15 ?_
      refine YK ?_;clear hS;intro w hS
      refine Y5 16 ?_
      refine Aa 17 ?_
      refine YK ?_;clear hS;intro w hS
      refine AE AA ?_ _
     repeat' (first
      | refine bn 60 ?_|refine X0 ?_|refine AG ?_;go_step|fail)
     go_roundg (gk-1)
     case measure=>omega
     case rel=>exact ⟨k+1,PA Q k (k+1),by omega,by omega,by go_num,HU.out.step (by omega) (by omega),HR.out.trans (Mv _ _ _ _ _ (by omega) (by omega) (by omega) (by omega) (by rw [HR.out.len];omega)),hS⟩
    obtain rfl:k=p:=by omega
    repeat' (first
     | (refine AS 57 ?_);(refine Ak (.int _ (((k:Nat):Int))) (V.as (V.subI rfl rfl (by omega)) (by omega)) (by kernel_rfl) ?_;go_step)|refine X1 ?_|refine X4 58 ?_|refine AG ?_;go_step|fail)
    refine bodyPost_ret (results_none rfl _ _ _) rfl ?_
    refine ⟨rfl,Q,HU.out.asc HA2.out hak (by omega) (fun h=>HLO.out k (by omega) (by omega)) (fun h=>HHI.out (k+1) (Nat.le_refl _) h),HR.out,hS⟩
 by_cases h2:b-m=1
 ·obtain rfl:b=m+1:=by omega
  go_enter Tryz.func139,Tryz.ntmps139
  repeat' (first
   | (refine AS 27 ?_);(refine Ak (.int _ (((m-a:Nat):Int))) (V.as (V.subI rfl rfl (by omega)) (by omega)) (by kernel_rfl) ?_;go_step)|refine X1 ?_|refine K1 28 ?_|refine AG ?_;go_step|fail)
  repeat' (first
   | (refine AS 79 ?_);(refine Ak (.int _ (1)) (V.as (V.subI rfl rfl (by omega)) (by omega)) (by kernel_rfl) ?_;go_step)|refine X0 ?_|refine K1 80 ?_|refine AG ?_;go_step|fail)
  go_loopg [14,15] (m-a) (fun gk iv jv w=>∃(i j:Nat),gk+i=j∧a≤i∧j≤m∧iv= .int .i64 i∧jv= .int .i64 j∧(∀x,a≤x→x<i→wk P x≤wk P m)∧(∀x,j≤x→x<m→wk P m≤wk P x)∧St W w (CW g n c P::rs'))
  case atStart=>exact ⟨a,m,by omega,by omega,by omega,rfl,rfl,fun x h1 h2=>by omega,fun x h1 h2=>by omega,hS⟩
  case round=>
   clear hS
   obtain ⟨i,j,hk,hi,hj,rfl,rfl,hlo,hhi,hS⟩:=hrel
   have HLO:=AD hlo
   have HHI:=AD hhi
   clear hlo hhi
   by_cases hlt:i<j
   ·obtain ⟨h,hh⟩:∃h,h=(i+j)/2:=⟨_,rfl⟩
    obtain ⟨v,hv⟩:∃v,K7 (Ao P m).w (Ao P h).w=v:=⟨_,rfl⟩
    have hv2:=G5 (Ao P m).w (Ao P h).w
    rw [hv] at hv2
    have HV:=AD hv
    have HV2:=AD hv2
    clear hv hv2
    repeat' (first
     | (refine AS 88 ?_);(refine Ak (.int _ (((i+j:Nat):Int))) (V.as (V.addI rfl rfl (by omega)) (by omega)) (by kernel_rfl) ?_;go_step)|refine WO 90 ?_|refine X0 ?_|refine X4 85 ?_|refine ai 89 ?_|refine ah 91 ?_|refine AG ?_;go_step|fail)
    refine AQ [9] (fun w=>St W w (CW g n c P::rs')) AA ?_
    replace hS:=hS.drew
    focus
     refine Ab 0 ?_
     refine Ab 1 ?_
     refine Ab 2 ?_
     refine Y5 3 ?_
     refine NM 4 [9,10,11] ?_
     refine Ab 5 ?_
     refine Ab 6 ?_
     refine Y5 7 ?_
     refine NM 8 [9,10,11] ?_
     refine Aa 9 ?_
     refine BQ (f:=104) rfl rfl Tryz.call104 (DA _ (Ao P m) (Ao P h)) ?_;rintro e w ⟨rfl,hE⟩;replace hS:=hS.ext hE;clear hE;rw [HV.out];refine ⟨_,rfl,?_⟩
     refine ⟨fun h=>absurd (by decide) h,?_⟩
     refine AF ?_
     go_step
     refine Bf 10 BU (V.lss rfl rfl) ?_;go_step
     refine Bf 11 BU (V.notD rfl) ?_;go_step
     refine AE AA ?_ _
    by_cases hc:v<0
    ·repeat' (first
      | refine X0 ?_|refine AG ?_;go_step|fail)
     go_roundg (h-i)
     case measure=>omega
     case rel=>
      refine ⟨i,h,by omega,by omega,by omega,rfl,by go_num,HLO.out,fun x k1 k2=>?_,hS⟩
      have:=HA1.out h x (by omega) k1 (by omega)
      have:=HV2.out.1 hc
      show (Ao P m).w≤(Ao P x).w
      omega
    repeat' (first
     | refine WN 105 ?_|refine X0 ?_|refine AG ?_;go_step|fail)
    go_roundg (j-(h+1))
    case measure=>omega
    case rel=>
     refine ⟨h+1,j,by omega,by omega,by omega,by go_num,rfl,fun x k1 k2=>?_,HHI.out,hS⟩
     have:=HA1.out x h k1 (by omega) (by omega)
     have:=HV2.out
     show (Ao P x).w≤(Ao P m).w
     omega
   obtain rfl:i=j:=by omega
   repeat' (first
    | refine X0 ?_|refine X4 85 ?_|refine AG ?_;go_step|fail)
   repeat' (first
    | refine AG ?_;go_step|fail)
   go_loopg [17] (m-i) (fun gk kv w=>∃(k:Nat) (Q:List DN),gk+i=k∧k≤m∧kv= .int .i64 k∧Dn m k P Q∧Rg a (m+1) P Q∧St W w (CW g n c Q::rs'))
   case atStart=>exact ⟨m,P,by omega,by omega,rfl,Dn.refl m P,Rg.refl a _ P,hS⟩
   case round=>
    clear hS
    obtain ⟨k,Q,hk2,hkm,rfl,hU,hR,hS⟩:=hrel
    have HU:=AD hU
    have HR:=AD hR
    clear hU hR
    by_cases hlt2:i<k
    ·obtain ⟨q,rfl⟩:∃q,k=q+1:=⟨k-1,by omega⟩
     repeat' (first
      | refine X1 ?_|refine ME 110 ?_|refine AG ?_;go_step|fail)
     refine AQ [15,17] (fun w=>St W w (CW g n c Q::rs')) AA ?_
     replace hS:=hS.drew
     focus
      refine Ab 0 ?_
      refine Ab 1 ?_
      refine Ab 2 ?_
      refine Ab 3 ?_
      (refine Bo 4 (.int _ (((q:Nat):Int))) Am AA AA AA Ch (V.as (V.subI rfl rfl (by omega)) (by omega)) AA ?_)
      go_step
      refine Ab 5 ?_
      refine Ab 6 ?_
      (refine Bo 7 (.int _ (((q:Nat):Int))) Am AA AA AA Ch (V.as (V.subI rfl rfl (by omega)) (by omega)) AA ?_)
      go_step
      refine Y5 8 ?_
      refine NM 9 [14,15,16,17] ?_
      refine Ab 10 ?_
      refine Ab 11 ?_
      refine Y5 12 ?_
      refine NM 13 [14,15,16,17] ?_
      refine Y5 14 ?_
      refine Aa 15 ?_
      refine YK ?_;clear hS;intro w hS
      refine Y5 16 ?_
      refine Aa 17 ?_
      refine YK ?_;clear hS;intro w hS
      refine AE AA ?_ _
     repeat' (first
      | (refine AS 112 ?_);(refine Ak (.int _ (((q:Nat):Int))) (V.as (V.subI rfl rfl (by omega)) (by omega)) (by kernel_rfl) ?_;go_step)|refine X0 ?_|refine AG ?_;go_step|fail)
     go_roundg (gk-1)
     case measure=>omega
     case rel=>exact ⟨q,PA Q (q+1) q,by omega,by omega,by go_num,HU.out.step (by omega) (by omega) (by omega),HR.out.trans (Mv _ _ _ _ _ (by omega) (by omega) (by omega) (by omega) (by rw [HR.out.len];omega)),hS⟩
    obtain rfl:k=i:=by omega
    repeat' (first
     | refine X1 ?_|refine ME 110 ?_|refine AG ?_;go_step|fail)
    refine bodyPost_ret (results_none rfl _ _ _) rfl ?_
    refine ⟨rfl,Q,HU.out.asc HA1.out hi (by omega) (fun h=>HLO.out (k-1) (by omega) (by omega)) (fun h=>HHI.out k (Nat.le_refl _) h),HR.out,hS⟩
 obtain ⟨mid,hmid⟩:∃mid,mid=(a+b)/2:=⟨_,rfl⟩
 obtain ⟨T,hT⟩:∃T,T=mid+m:=⟨_,rfl⟩
 obtain ⟨s0,hs0⟩:∃s0,s0=if mid<m then T-b else a:=⟨_,rfl⟩
 obtain ⟨r0,hr0⟩:∃r0,r0=if mid<m then mid else m:=⟨_,rfl⟩
 have hs0a:mid<m→s0=T-b:=fun h=>by rw [hs0,if_pos h]
 have hs0b:¬mid<m→s0=a:=fun h=>by rw [hs0,if_neg h]
 have hr0a:mid<m→r0=mid:=fun h=>by rw [hr0,if_pos h]
 have hr0b:¬mid<m→r0=m:=fun h=>by rw [hr0,if_neg h]
 clear hs0 hr0
 have hF:s0≤r0∧a≤s0∧r0≤mid∧r0≤m∧(∀st,s0≤st→st≤r0→m≤T-st∧T-st≤b∧st≤T):=by
  by_cases hc:mid<m
  ·have:=hs0a hc;have:=hr0a hc
   exact ⟨by omega,by omega,by omega,by omega,fun st k1 k2=>by omega⟩
  have:=hs0b hc;have:=hr0b hc
  exact ⟨by omega,by omega,by omega,by omega,fun st k1 k2=>by omega⟩
 obtain ⟨f1,f2,f3,f4,f5⟩:=hF
 have F5:=AD f5
 clear f5
 have HS0a:=AD hs0a
 have HS0b:=AD hs0b
 have HR0a:=AD hr0a
 have HR0b:=AD hr0b
 clear hs0a hs0b hr0a hr0b
 obtain ⟨d1,hd1⟩:∃d,d=m-a:=⟨_,rfl⟩
 obtain ⟨d2,hd2⟩:∃d,d=b-m:=⟨_,rfl⟩
 go_enter Tryz.func139,Tryz.ntmps139
 repeat' (first
  | (refine AS 27 ?_);(refine Ak (.int _ (((d1:Nat):Int))) (V.as (V.subI rfl rfl (by omega)) (by omega)) (by kernel_rfl) ?_;go_step)|refine X1 ?_|refine K1 28 ?_|refine AG ?_;go_step|fail)
 repeat' (first
  | (refine AS 79 ?_);(refine Ak (.int _ (((d2:Nat):Int))) (V.as (V.subI rfl rfl (by omega)) (by omega)) (by kernel_rfl) ?_;go_step)|refine X1 ?_|refine K1 80 ?_|refine AG ?_;go_step|fail)
 have h1':a+2≤m:=by omega
 have h2':m+2≤b:=by omega
 clear h1 h2 hd1 hd2
 by_cases hc:mid<m
 ·have e1:=HS0a.out hc
  have e2:=HR0a.out hc
  repeat' (first
   | (refine AS 131 ?_);(refine Ak (.int _ (((a+b:Nat):Int))) (V.as (V.addI rfl rfl (by omega)) (by omega)) (by kernel_rfl) ?_;go_step)|(refine AS 133 ?_);(refine Ak (.int _ (((mid:Nat):Int))) (V.as (V.shr rfl rfl BI (by omega) rfl) (by omega)) (by kernel_rfl) ?_;go_step)|(refine AS 137 ?_);(refine Ak (.int _ (((T:Nat):Int))) (V.as (V.addI rfl rfl (by omega)) (by omega)) (by kernel_rfl) ?_;go_step)|(refine AS 143 ?_);(refine Ak (.int _ (((s0:Nat):Int))) (V.as (V.subI rfl rfl (by omega)) (by omega)) (by kernel_rfl) ?_;go_step)|refine X0 ?_|refine ai 132 ?_|refine ah 134 ?_|refine ME 140 ?_|refine AG ?_;go_step|fail)
  repeat' (first
   | (refine AS 148 ?_);(refine Ak (.int _ (((T-1:Nat):Int))) (V.as (V.subI rfl rfl (by omega)) (by omega)) (by kernel_rfl) ?_;go_step)|refine X8 ?_|refine AG ?_;go_step|fail)
  go_loopg [20,21] (r0-s0) (fun gk iv jv w=>∃(st r:Nat),gk+st=r∧s0≤st∧r≤r0∧iv= .int .i64 st∧jv= .int .i64 r∧(s0<st→wk P (st-1)≤wk P (T-st))∧(r<r0→wk P (T-1-r)≤wk P r)∧St W w (CW g n c P::rs'))
  case atStart=>exact ⟨s0,r0,by omega,by omega,by omega,by first|rfl|rw [e1],by first|rfl|rw [e2],fun h=>by omega,fun h=>by omega,hS⟩
  case round=>
   clear hS
   obtain ⟨st,r,hk,hst,hr,rfl,rfl,hlo,hhi,hS⟩:=hrel
   have HLO:=AD hlo
   have HHI:=AD hhi
   clear hlo hhi
   have f5:=F5.out st hst (by omega)
   by_cases hlt:st<r
   ·obtain ⟨h,hh⟩:∃h,h=(st+r)/2:=⟨_,rfl⟩
    obtain ⟨y,hy⟩:∃y,y=T-1-h:=⟨_,rfl⟩
    have f6:=F5.out (h+1) (by omega) (by omega)
    obtain ⟨v,hv⟩:∃v,K7 (Ao P y).w (Ao P h).w=v:=⟨_,rfl⟩
    have hv2:=G5 (Ao P y).w (Ao P h).w
    rw [hv] at hv2
    have HV:=AD hv
    have HV2:=AD hv2
    clear hv hv2
    repeat' (first
     | (refine AS 154 ?_);(refine Ak (.int _ (((st+r:Nat):Int))) (V.as (V.addI rfl rfl (by omega)) (by omega)) (by kernel_rfl) ?_;go_step)|refine WO 156 ?_|refine X0 ?_|refine X4 151 ?_|refine ai 155 ?_|refine ah 157 ?_|refine AG ?_;go_step|fail)
    refine AQ [11] (fun w=>St W w (CW g n c P::rs')) AA ?_
    replace hS:=hS.drew
    focus
     refine Ab 0 ?_
     refine Ab 1 ?_
     refine Ab 2 ?_
     refine Ab 3 ?_
     (refine Bo 4 (.int _ (((y:Nat):Int))) Am AA AA AA Ch (V.as (V.subI rfl rfl (by omega)) (by omega)) AA ?_)
     go_step
     refine Y5 5 ?_
     refine NM 6 [11,12,13] ?_
     refine Ab 7 ?_
     refine Ab 8 ?_
     refine Y5 9 ?_
     refine NM 10 [11,12,13] ?_
     refine Aa 11 ?_
     refine BQ (f:=104) rfl rfl Tryz.call104 (DA _ (Ao P y) (Ao P h)) ?_;rintro e w ⟨rfl,hE⟩;replace hS:=hS.ext hE;clear hE;rw [HV.out];refine ⟨_,rfl,?_⟩
     refine ⟨fun h=>absurd (by decide) h,?_⟩
     refine AF ?_
     go_step
     refine Bf 12 BU (V.lss rfl rfl) ?_;go_step
     refine Bf 13 BU (V.notD rfl) ?_;go_step
     refine AE AA ?_ _
    by_cases hc2:v<0
    ·repeat' (first
      | refine X0 ?_|refine AG ?_;go_step|fail)
     go_roundg (h-st)
     case measure=>omega
     case rel=>
      refine ⟨st,h,by omega,by omega,by omega,rfl,by go_num,HLO.out,fun k1=>?_,hS⟩
      have:=HV2.out.1 hc2
      rw [←hy]
      exact Int.le_of_lt this
    repeat' (first
     | refine WN 173 ?_|refine X0 ?_|refine AG ?_;go_step|fail)
    go_roundg (r-(h+1))
    case measure=>omega
    case rel=>
     refine ⟨h+1,r,by omega,by omega,by omega,by go_num,rfl,fun k1=>?_,HHI.out,hS⟩
     have:=HV2.out
     rw [show T-(h+1)=y by omega,Nat.add_sub_cancel]
     show (Ao P h).w≤(Ao P y).w
     omega
   obtain rfl:st=r:=by omega
   obtain ⟨en,hen⟩:∃en,en=T-st:=⟨_,rfl⟩
   have HLO2:Hid (a<st→m≤en→en<b→wk P (st-1)≤wk P en):=fun k1 k2 k3=>by
    rw [hen];exact HLO.out (by omega)
   have HHI2:Hid (m<en→st<m→wk P (en-1)≤wk P st):=fun k1 k2=>by
    rw [show en-1=T-1-st by omega];exact HHI.out (by omega)
   clear HLO HHI
   repeat' (first
    | refine X1 ?_|refine X4 151 ?_|refine AG ?_;go_step|fail)
   by_cases hrot:st<m∧m<en
   ·have hrot1:=hrot.1
    have hrot2:=hrot.2
    repeat' (first
     | refine WM 177 ?_|(refine A3 145 ?_);refine A4 AA Tryz.call145 (KP W _ _ rs' g n c st m en P hS AT.head hrot1 hrot2 (by omega) hn aw) ?_;rintro e w ⟨rfl,Q,hQ,hS2⟩;replace hS:=hS2;clear hS2;refine Ae ?_;go_step|refine X0 ?_|refine FJ ?_|refine EN 180 ?_ ?_<;>intro hB<;>(try exact AW)<;>go_step|refine X4 184 ?_|refine AG ?_;go_step|fail)
    obtain ⟨s1,s2,s3,s4,hx⟩:=GC HA1.out HA2.out ham hmb hmid (show en=mid+m-st by omega) (by omega) (by omega) (by omega) (by omega) (by omega) HLO2.out HHI2.out hQ
    have hQr:=hQ.rg (show st≤m by omega) (show m≤en by omega)
    have hQl:=hQr.len
    have HQR:=AD (hQr.wide (show a≤st by omega) (show en≤b by omega) (by omega) (by omega))
    have HX:=AD hx
    have S1:=AD s1
    have S2:=AD s2
    have S3:=AD s3
    have S4:=AD s4
    have g1:a≤st:=by omega
    have g2:st≤mid:=by omega
    have g3:mid≤en:=by omega
    have g4:en≤b:=by omega
    have g5:mid-a≤N:=by omega
    have g6:b-mid≤N:=by omega
    have g7:a<mid:=by omega
    have g8:mid<b:=by omega
    have hQn:Q.length=n:=by omega
    clear hx s1 s2 s3 s4 hQ hQr HLO2 HHI2 HA1 HA2 F5 HS0a HS0b HR0a HR0b hen hlt hk hst hr f5 f1 f2 f3 f4 hT hmid e1 e2 hc h1' h2' hN hrot hQl hPl hp ham hmb
    by_cases hl:a<st∧st<mid
    ·obtain ⟨hl1,hl2⟩:=hl
     have hb2:mid≤n:=by omega
     have HC:=AD (fun (w:World)(hS:St W w (CW g n c Q::rs'))=>IH.out W w (CW g n c Q::rs') rs' g n c a st mid Q g5 hS AT.head hl1 hl2 hb2 hn S1.out S2.out)
     repeat' (first
      | (refine A3 139 ?_);refine A4 AA Tryz.call139 (HC.out _ hS) ?_;rintro e w ⟨rfl,R,hR1,hR2,hS2⟩;replace hS:=hS2;clear hS2;refine Ae ?_;go_step|refine X1 ?_|refine FJ ?_|refine EN 194 ?_ ?_<;>intro hB<;>(try exact AW)<;>go_step|refine X4 198 ?_|refine AG ?_;go_step|fail)
     have S5:=AD (S3.out.same (Q:=R) fun x k1 k2=>hR2.out x (by omega))
     have S6:=AD (S4.out.same (Q:=R) fun x k1 k2=>hR2.out x (by omega))
     have R1:=AD hR1
     have R2:=AD hR2
     clear hR1 hR2
     by_cases hr:mid<en∧en<b
     ·obtain ⟨hr1,hr2⟩:=hr
      have HC:=AD (fun (w:World)(hS:St W w (CW g n c R::rs'))=>IH.out W w (CW g n c R::rs') rs' g n c mid en b R g6 hS AT.head hr1 hr2 hb hn S5.out S6.out)
      repeat' (first
       | (refine A3 139 ?_);refine A4 AA Tryz.call139 (HC.out _ hS) ?_;rintro e w ⟨rfl,Z,hZ1,hZ2,hS2⟩;replace hS:=hS2;clear hS2;refine Ae ?_;go_step|refine X1 ?_|refine FJ ?_|refine EN 208 ?_ ?_<;>intro hB<;>(try exact AW)<;>go_step|refine X4 212 ?_|refine AG ?_;go_step|fail)
      go_end0
      obtain ⟨j1,j2⟩:=Bh (show a≤mid by omega) (show mid≤b by omega) (show b≤Q.length by rw [hQn];exact hb) HX.out R2.out hZ2 R1.out hZ1
      exact ⟨rfl,Z,j1,HQR.out.trans j2,hS⟩
     have hZ1:Dl DN.w mid b R:=by
      by_cases c1:mid<en
      ·exact S5.out.sub (Nat.le_refl _) (by omega)
      exact S6.out.sub (by omega) (Nat.le_refl _)
     repeat' (first
      | refine X1 ?_|refine FJ ?_|refine EN 208 ?_ ?_<;>intro hB<;>(try exact AW)<;>go_step|refine X4 212 ?_|refine AG ?_;go_step|fail)
     all_goals
      go_end0
      obtain ⟨j1,j2⟩:=Bh (show a≤mid by omega) (show mid≤b by omega) (show b≤Q.length by rw [hQn];exact hb) HX.out R2.out (Rg.refl _ _ _) R1.out hZ1
      exact ⟨rfl,R,j1,HQR.out.trans j2,hS⟩
    obtain ⟨R,hRe⟩:∃R,R=Q:=⟨Q,rfl⟩
    have hR2:Rg a mid Q R:=by rw [hRe];exact Rg.refl _ _ _
    have hR1:Dl DN.w a mid R:=by
     rw [hRe]
     by_cases c1:a<st
     ·exact S1.out.sub (Nat.le_refl _) (by omega)
     exact S2.out.sub (by omega) (Nat.le_refl _)
    rw [←hRe] at hS
    repeat' (first
     | go_skip|((with_reducible refine JG ?_);(first|go_big_want|go_step);go_step)|((with_reducible refine An _ (.pick _ _ _) ?_);first|(refine BJ rfl AA ?_;go_step)|(refine BC rfl AA ?_;go_step))|((refine AS 194 ?_);(refine Cg _ (V.lss rfl rfl) AA (fun hB=>?_) (fun hB=>?_)<;>(try exact AW)<;>go_step))|((refine AS 198 ?_);(refine As AA (V.lss rfl rfl) ?_;go_step))|(refine AG ?_;go_step)|fail)
    all_goals
     have S5:=AD (S3.out.same (Q:=R) fun x k1 k2=>hR2.out x (by omega))
     have S6:=AD (S4.out.same (Q:=R) fun x k1 k2=>hR2.out x (by omega))
     have R1:=AD hR1
     have R2:=AD hR2
     clear hR1 hR2
     by_cases hr:mid<en∧en<b
     ·obtain ⟨hr1,hr2⟩:=hr
      have HC:=AD (fun (w:World)(hS:St W w (CW g n c R::rs'))=>IH.out W w (CW g n c R::rs') rs' g n c mid en b R g6 hS AT.head hr1 hr2 hb hn S5.out S6.out)
      repeat' (first
       | (refine A3 139 ?_);refine A4 AA Tryz.call139 (HC.out _ hS) ?_;rintro e w ⟨rfl,Z,hZ1,hZ2,hS2⟩;replace hS:=hS2;clear hS2;refine Ae ?_;go_step|refine X1 ?_|refine FJ ?_|refine EN 208 ?_ ?_<;>intro hB<;>(try exact AW)<;>go_step|refine X4 212 ?_|refine AG ?_;go_step|fail)
      go_end0
      obtain ⟨j1,j2⟩:=Bh (show a≤mid by omega) (show mid≤b by omega) (show b≤Q.length by rw [hQn];exact hb) HX.out R2.out hZ2 R1.out hZ1
      exact ⟨rfl,Z,j1,HQR.out.trans j2,hS⟩
     have hZ1:Dl DN.w mid b R:=by
      by_cases c1:mid<en
      ·exact S5.out.sub (Nat.le_refl _) (by omega)
      exact S6.out.sub (by omega) (Nat.le_refl _)
     repeat' (first
      | refine X1 ?_|refine FJ ?_|refine EN 208 ?_ ?_<;>intro hB<;>(try exact AW)<;>go_step|refine X4 212 ?_|refine AG ?_;go_step|fail)
     all_goals
      go_end0
      obtain ⟨j1,j2⟩:=Bh (show a≤mid by omega) (show mid≤b by omega) (show b≤Q.length by rw [hQn];exact hb) HX.out R2.out (Rg.refl _ _ _) R1.out hZ1
      exact ⟨rfl,R,j1,HQR.out.trans j2,hS⟩
   obtain ⟨Q,hQe,hQ⟩:∃Q,Q=P∧NL st m en P Q:=⟨P,rfl,NL.triv (by omega) (by omega) (by omega) (by omega)⟩
   rw [←hQe] at hS
   repeat' (first
    | refine WM 177 ?_|refine X0 ?_|refine FJ ?_|refine EN 180 ?_ ?_<;>intro hB<;>(try exact AW)<;>go_step|refine X4 184 ?_|refine AG ?_;go_step|fail)
   all_goals
    obtain ⟨s1,s2,s3,s4,hx⟩:=GC HA1.out HA2.out ham hmb hmid (show en=mid+m-st by omega) (by omega) (by omega) (by omega) (by omega) (by omega) HLO2.out HHI2.out hQ
    have hQr:=hQ.rg (show st≤m by omega) (show m≤en by omega)
    have hQl:=hQr.len
    have HQR:=AD (hQr.wide (show a≤st by omega) (show en≤b by omega) (by omega) (by omega))
    have HX:=AD hx
    have S1:=AD s1
    have S2:=AD s2
    have S3:=AD s3
    have S4:=AD s4
    have g1:a≤st:=by omega
    have g2:st≤mid:=by omega
    have g3:mid≤en:=by omega
    have g4:en≤b:=by omega
    have g5:mid-a≤N:=by omega
    have g6:b-mid≤N:=by omega
    have g7:a<mid:=by omega
    have g8:mid<b:=by omega
    have hQn:Q.length=n:=by omega
    clear hx s1 s2 s3 s4 hQ hQr HLO2 HHI2 HA1 HA2 F5 HS0a HS0b HR0a HR0b hen hlt hk hst hr f5 f1 f2 f3 f4 hT hmid e1 e2 hc h1' h2' hN hrot hQl hPl hp ham hmb
    by_cases hl:a<st∧st<mid
    ·obtain ⟨hl1,hl2⟩:=hl
     have hb2:mid≤n:=by omega
     have HC:=AD (fun (w:World)(hS:St W w (CW g n c Q::rs'))=>IH.out W w (CW g n c Q::rs') rs' g n c a st mid Q g5 hS AT.head hl1 hl2 hb2 hn S1.out S2.out)
     repeat' (first
      | (refine A3 139 ?_);refine A4 AA Tryz.call139 (HC.out _ hS) ?_;rintro e w ⟨rfl,R,hR1,hR2,hS2⟩;replace hS:=hS2;clear hS2;refine Ae ?_;go_step|refine X1 ?_|refine FJ ?_|refine EN 194 ?_ ?_<;>intro hB<;>(try exact AW)<;>go_step|refine X4 198 ?_|refine AG ?_;go_step|fail)
     have S5:=AD (S3.out.same (Q:=R) fun x k1 k2=>hR2.out x (by omega))
     have S6:=AD (S4.out.same (Q:=R) fun x k1 k2=>hR2.out x (by omega))
     have R1:=AD hR1
     have R2:=AD hR2
     clear hR1 hR2
     by_cases hr:mid<en∧en<b
     ·obtain ⟨hr1,hr2⟩:=hr
      have HC:=AD (fun (w:World)(hS:St W w (CW g n c R::rs'))=>IH.out W w (CW g n c R::rs') rs' g n c mid en b R g6 hS AT.head hr1 hr2 hb hn S5.out S6.out)
      repeat' (first
       | (refine A3 139 ?_);refine A4 AA Tryz.call139 (HC.out _ hS) ?_;rintro e w ⟨rfl,Z,hZ1,hZ2,hS2⟩;replace hS:=hS2;clear hS2;refine Ae ?_;go_step|refine X1 ?_|refine FJ ?_|refine EN 208 ?_ ?_<;>intro hB<;>(try exact AW)<;>go_step|refine X4 212 ?_|refine AG ?_;go_step|fail)
      go_end0
      obtain ⟨j1,j2⟩:=Bh (show a≤mid by omega) (show mid≤b by omega) (show b≤Q.length by rw [hQn];exact hb) HX.out R2.out hZ2 R1.out hZ1
      exact ⟨rfl,Z,j1,HQR.out.trans j2,hS⟩
     have hZ1:Dl DN.w mid b R:=by
      by_cases c1:mid<en
      ·exact S5.out.sub (Nat.le_refl _) (by omega)
      exact S6.out.sub (by omega) (Nat.le_refl _)
     repeat' (first
      | go_skip|((with_reducible refine JG ?_);(first|go_big_want|go_step);go_step)|((with_reducible refine An _ (.pick _ _ _) ?_);first|(refine BJ rfl AA ?_;go_step)|(refine BC rfl AA ?_;go_step))|((refine AS 208 ?_);(refine Cg _ (V.lss rfl rfl) AA (fun hB=>?_) (fun hB=>?_)<;>(try exact AW)<;>go_step))|((refine AS 212 ?_);(refine As AA (V.lss rfl rfl) ?_;go_step))|(refine AG ?_;go_step)|fail)
     all_goals
      go_end0
      obtain ⟨j1,j2⟩:=Bh (show a≤mid by omega) (show mid≤b by omega) (show b≤Q.length by rw [hQn];exact hb) HX.out R2.out (Rg.refl _ _ _) R1.out hZ1
      exact ⟨rfl,R,j1,HQR.out.trans j2,hS⟩
    obtain ⟨R,hRe⟩:∃R,R=Q:=⟨Q,rfl⟩
    have hR2:Rg a mid Q R:=by rw [hRe];exact Rg.refl _ _ _
    have hR1:Dl DN.w a mid R:=by
     rw [hRe]
     by_cases c1:a<st
     ·exact S1.out.sub (Nat.le_refl _) (by omega)
     exact S2.out.sub (by omega) (Nat.le_refl _)
    rw [←hRe] at hS
    repeat' (first
     | go_skip|((with_reducible refine JG ?_);(first|go_big_want|go_step);go_step)|((with_reducible refine An _ (.pick _ _ _) ?_);first|(refine BJ rfl AA ?_;go_step)|(refine BC rfl AA ?_;go_step))|((refine AS 194 ?_);(refine Cg _ (V.lss rfl rfl) AA (fun hB=>?_) (fun hB=>?_)<;>(try exact AW)<;>go_step))|((refine AS 198 ?_);(refine As AA (V.lss rfl rfl) ?_;go_step))|(refine AG ?_;go_step)|fail)
    all_goals
     have S5:=AD (S3.out.same (Q:=R) fun x k1 k2=>hR2.out x (by omega))
     have S6:=AD (S4.out.same (Q:=R) fun x k1 k2=>hR2.out x (by omega))
     have R1:=AD hR1
     have R2:=AD hR2
     clear hR1 hR2
     by_cases hr:mid<en∧en<b
     ·obtain ⟨hr1,hr2⟩:=hr
      have HC:=AD (fun (w:World)(hS:St W w (CW g n c R::rs'))=>IH.out W w (CW g n c R::rs') rs' g n c mid en b R g6 hS AT.head hr1 hr2 hb hn S5.out S6.out)
      repeat' (first
       | (refine A3 139 ?_);refine A4 AA Tryz.call139 (HC.out _ hS) ?_;rintro e w ⟨rfl,Z,hZ1,hZ2,hS2⟩;replace hS:=hS2;clear hS2;refine Ae ?_;go_step|refine X1 ?_|refine FJ ?_|refine EN 208 ?_ ?_<;>intro hB<;>(try exact AW)<;>go_step|refine X4 212 ?_|refine AG ?_;go_step|fail)
      go_end0
      obtain ⟨j1,j2⟩:=Bh (show a≤mid by omega) (show mid≤b by omega) (show b≤Q.length by rw [hQn];exact hb) HX.out R2.out hZ2 R1.out hZ1
      exact ⟨rfl,Z,j1,HQR.out.trans j2,hS⟩
     have hZ1:Dl DN.w mid b R:=by
      by_cases c1:mid<en
      ·exact S5.out.sub (Nat.le_refl _) (by omega)
      exact S6.out.sub (by omega) (Nat.le_refl _)
     repeat' (first
      | go_skip|((with_reducible refine JG ?_);(first|go_big_want|go_step);go_step)|((with_reducible refine An _ (.pick _ _ _) ?_);first|(refine BJ rfl AA ?_;go_step)|(refine BC rfl AA ?_;go_step))|((refine AS 208 ?_);(refine Cg _ (V.lss rfl rfl) AA (fun hB=>?_) (fun hB=>?_)<;>(try exact AW)<;>go_step))|((refine AS 212 ?_);(refine As AA (V.lss rfl rfl) ?_;go_step))|(refine AG ?_;go_step)|fail)
     all_goals
      go_end0
      obtain ⟨j1,j2⟩:=Bh (show a≤mid by omega) (show mid≤b by omega) (show b≤Q.length by rw [hQn];exact hb) HX.out R2.out (Rg.refl _ _ _) R1.out hZ1
      exact ⟨rfl,R,j1,HQR.out.trans j2,hS⟩
 have e1:=HS0b.out hc
 have e2:=HR0b.out hc
 repeat' (first
  | (refine AS 131 ?_);(refine Ak (.int _ (((a+b:Nat):Int))) (V.as (V.addI rfl rfl (by omega)) (by omega)) (by kernel_rfl) ?_;go_step)|(refine AS 133 ?_);(refine Ak (.int _ (((mid:Nat):Int))) (V.as (V.shr rfl rfl BI (by omega) rfl) (by omega)) (by kernel_rfl) ?_;go_step)|(refine AS 137 ?_);(refine Ak (.int _ (((T:Nat):Int))) (V.as (V.addI rfl rfl (by omega)) (by omega)) (by kernel_rfl) ?_;go_step)|refine X0 ?_|refine ai 132 ?_|refine ah 134 ?_|refine ME 140 ?_|refine AG ?_;go_step|fail)
 repeat' (first
  | (refine AS 148 ?_);(refine Ak (.int _ (((T-1:Nat):Int))) (V.as (V.subI rfl rfl (by omega)) (by omega)) (by kernel_rfl) ?_;go_step)|refine X8 ?_|refine AG ?_;go_step|fail)
 go_loopg [20,21] (r0-s0) (fun gk iv jv w=>∃(st r:Nat),gk+st=r∧s0≤st∧r≤r0∧iv= .int .i64 st∧jv= .int .i64 r∧(s0<st→wk P (st-1)≤wk P (T-st))∧(r<r0→wk P (T-1-r)≤wk P r)∧St W w (CW g n c P::rs'))
 case atStart=>exact ⟨s0,r0,by omega,by omega,by omega,by first|rfl|rw [e1],by first|rfl|rw [e2],fun h=>by omega,fun h=>by omega,hS⟩
 case round=>
  clear hS
  obtain ⟨st,r,hk,hst,hr,rfl,rfl,hlo,hhi,hS⟩:=hrel
  have HLO:=AD hlo
  have HHI:=AD hhi
  clear hlo hhi
  have f5:=F5.out st hst (by omega)
  by_cases hlt:st<r
  ·obtain ⟨h,hh⟩:∃h,h=(st+r)/2:=⟨_,rfl⟩
   obtain ⟨y,hy⟩:∃y,y=T-1-h:=⟨_,rfl⟩
   have f6:=F5.out (h+1) (by omega) (by omega)
   obtain ⟨v,hv⟩:∃v,K7 (Ao P y).w (Ao P h).w=v:=⟨_,rfl⟩
   have hv2:=G5 (Ao P y).w (Ao P h).w
   rw [hv] at hv2
   have HV:=AD hv
   have HV2:=AD hv2
   clear hv hv2
   repeat' (first
    | (refine AS 154 ?_);(refine Ak (.int _ (((st+r:Nat):Int))) (V.as (V.addI rfl rfl (by omega)) (by omega)) (by kernel_rfl) ?_;go_step)|refine WO 156 ?_|refine X0 ?_|refine X4 151 ?_|refine ai 155 ?_|refine ah 157 ?_|refine AG ?_;go_step|fail)
   refine AQ [11] (fun w=>St W w (CW g n c P::rs')) AA ?_
   replace hS:=hS.drew
   focus
    refine Ab 0 ?_
    refine Ab 1 ?_
    refine Ab 2 ?_
    refine Ab 3 ?_
    (refine Bo 4 (.int _ (((y:Nat):Int))) Am AA AA AA Ch (V.as (V.subI rfl rfl (by omega)) (by omega)) AA ?_)
    go_step
    refine Y5 5 ?_
    refine NM 6 [11,12,13] ?_
    refine Ab 7 ?_
    refine Ab 8 ?_
    refine Y5 9 ?_
    refine NM 10 [11,12,13] ?_
    refine Aa 11 ?_
    refine BQ (f:=104) rfl rfl Tryz.call104 (DA _ (Ao P y) (Ao P h)) ?_;rintro e w ⟨rfl,hE⟩;replace hS:=hS.ext hE;clear hE;rw [HV.out];refine ⟨_,rfl,?_⟩
    refine ⟨fun h=>absurd (by decide) h,?_⟩
    refine AF ?_
    go_step
    refine Bf 12 BU (V.lss rfl rfl) ?_;go_step
    refine Bf 13 BU (V.notD rfl) ?_;go_step
    refine AE AA ?_ _
   by_cases hc2:v<0
   ·repeat' (first
     | refine X0 ?_|refine AG ?_;go_step|fail)
    go_roundg (h-st)
    case measure=>omega
    case rel=>
     refine ⟨st,h,by omega,by omega,by omega,rfl,by go_num,HLO.out,fun k1=>?_,hS⟩
     have:=HV2.out.1 hc2
     rw [←hy]
     exact Int.le_of_lt this
   repeat' (first
    | refine WN 173 ?_|refine X0 ?_|refine AG ?_;go_step|fail)
   go_roundg (r-(h+1))
   case measure=>omega
   case rel=>
    refine ⟨h+1,r,by omega,by omega,by omega,by go_num,rfl,fun k1=>?_,HHI.out,hS⟩
    have:=HV2.out
    rw [show T-(h+1)=y by omega,Nat.add_sub_cancel]
    show (Ao P h).w≤(Ao P y).w
    omega
  obtain rfl:st=r:=by omega
  obtain ⟨en,hen⟩:∃en,en=T-st:=⟨_,rfl⟩
  have HLO2:Hid (a<st→m≤en→en<b→wk P (st-1)≤wk P en):=fun k1 k2 k3=>by
   rw [hen];exact HLO.out (by omega)
  have HHI2:Hid (m<en→st<m→wk P (en-1)≤wk P st):=fun k1 k2=>by
   rw [show en-1=T-1-st by omega];exact HHI.out (by omega)
  clear HLO HHI
  repeat' (first
   | refine X1 ?_|refine X4 151 ?_|refine AG ?_;go_step|fail)
  by_cases hrot:st<m∧m<en
  ·have hrot1:=hrot.1
   have hrot2:=hrot.2
   repeat' (first
    | refine WM 177 ?_|(refine A3 145 ?_);refine A4 AA Tryz.call145 (KP W _ _ rs' g n c st m en P hS AT.head hrot1 hrot2 (by omega) hn aw) ?_;rintro e w ⟨rfl,Q,hQ,hS2⟩;replace hS:=hS2;clear hS2;refine Ae ?_;go_step|refine X0 ?_|refine FJ ?_|refine EN 180 ?_ ?_<;>intro hB<;>(try exact AW)<;>go_step|refine X4 184 ?_|refine AG ?_;go_step|fail)
   obtain ⟨s1,s2,s3,s4,hx⟩:=GC HA1.out HA2.out ham hmb hmid (show en=mid+m-st by omega) (by omega) (by omega) (by omega) (by omega) (by omega) HLO2.out HHI2.out hQ
   have hQr:=hQ.rg (show st≤m by omega) (show m≤en by omega)
   have hQl:=hQr.len
   have HQR:=AD (hQr.wide (show a≤st by omega) (show en≤b by omega) (by omega) (by omega))
   have HX:=AD hx
   have S1:=AD s1
   have S2:=AD s2
   have S3:=AD s3
   have S4:=AD s4
   have g1:a≤st:=by omega
   have g2:st≤mid:=by omega
   have g3:mid≤en:=by omega
   have g4:en≤b:=by omega
   have g5:mid-a≤N:=by omega
   have g6:b-mid≤N:=by omega
   have g7:a<mid:=by omega
   have g8:mid<b:=by omega
   have hQn:Q.length=n:=by omega
   clear hx s1 s2 s3 s4 hQ hQr HLO2 HHI2 HA1 HA2 F5 HS0a HS0b HR0a HR0b hen hlt hk hst hr f5 f1 f2 f3 f4 hT hmid e1 e2 hc h1' h2' hN hrot hQl hPl hp ham hmb
   by_cases hl:a<st∧st<mid
   ·obtain ⟨hl1,hl2⟩:=hl
    have hb2:mid≤n:=by omega
    have HC:=AD (fun (w:World)(hS:St W w (CW g n c Q::rs'))=>IH.out W w (CW g n c Q::rs') rs' g n c a st mid Q g5 hS AT.head hl1 hl2 hb2 hn S1.out S2.out)
    repeat' (first
     | (refine A3 139 ?_);refine A4 AA Tryz.call139 (HC.out _ hS) ?_;rintro e w ⟨rfl,R,hR1,hR2,hS2⟩;replace hS:=hS2;clear hS2;refine Ae ?_;go_step|refine X1 ?_|refine FJ ?_|refine EN 194 ?_ ?_<;>intro hB<;>(try exact AW)<;>go_step|refine X4 198 ?_|refine AG ?_;go_step|fail)
    have S5:=AD (S3.out.same (Q:=R) fun x k1 k2=>hR2.out x (by omega))
    have S6:=AD (S4.out.same (Q:=R) fun x k1 k2=>hR2.out x (by omega))
    have R1:=AD hR1
    have R2:=AD hR2
    clear hR1 hR2
    by_cases hr:mid<en∧en<b
    ·obtain ⟨hr1,hr2⟩:=hr
     have HC:=AD (fun (w:World)(hS:St W w (CW g n c R::rs'))=>IH.out W w (CW g n c R::rs') rs' g n c mid en b R g6 hS AT.head hr1 hr2 hb hn S5.out S6.out)
     repeat' (first
      | (refine A3 139 ?_);refine A4 AA Tryz.call139 (HC.out _ hS) ?_;rintro e w ⟨rfl,Z,hZ1,hZ2,hS2⟩;replace hS:=hS2;clear hS2;refine Ae ?_;go_step|refine X1 ?_|refine FJ ?_|refine EN 208 ?_ ?_<;>intro hB<;>(try exact AW)<;>go_step|refine X4 212 ?_|refine AG ?_;go_step|fail)
     go_end0
     obtain ⟨j1,j2⟩:=Bh (show a≤mid by omega) (show mid≤b by omega) (show b≤Q.length by rw [hQn];exact hb) HX.out R2.out hZ2 R1.out hZ1
     exact ⟨rfl,Z,j1,HQR.out.trans j2,hS⟩
    have hZ1:Dl DN.w mid b R:=by
     by_cases c1:mid<en
     ·exact S5.out.sub (Nat.le_refl _) (by omega)
     exact S6.out.sub (by omega) (Nat.le_refl _)
    repeat' (first
     | go_skip|((with_reducible refine JG ?_);(first|go_big_want|go_step);go_step)|((with_reducible refine An _ (.pick _ _ _) ?_);first|(refine BJ rfl AA ?_;go_step)|(refine BC rfl AA ?_;go_step))|((refine AS 208 ?_);(refine Cg _ (V.lss rfl rfl) AA (fun hB=>?_) (fun hB=>?_)<;>(try exact AW)<;>go_step))|((refine AS 212 ?_);(refine As AA (V.lss rfl rfl) ?_;go_step))|(refine AG ?_;go_step)|fail)
    all_goals
     go_end0
     obtain ⟨j1,j2⟩:=Bh (show a≤mid by omega) (show mid≤b by omega) (show b≤Q.length by rw [hQn];exact hb) HX.out R2.out (Rg.refl _ _ _) R1.out hZ1
     exact ⟨rfl,R,j1,HQR.out.trans j2,hS⟩
   obtain ⟨R,hRe⟩:∃R,R=Q:=⟨Q,rfl⟩
   have hR2:Rg a mid Q R:=by rw [hRe];exact Rg.refl _ _ _
   have hR1:Dl DN.w a mid R:=by
    rw [hRe]
    by_cases c1:a<st
    ·exact S1.out.sub (Nat.le_refl _) (by omega)
    exact S2.out.sub (by omega) (Nat.le_refl _)
   rw [←hRe] at hS
   repeat' (first
    | go_skip|((with_reducible refine JG ?_);(first|go_big_want|go_step);go_step)|((with_reducible refine An _ (.pick _ _ _) ?_);(refine BC rfl AA ?_;go_step))|((refine AS 194 ?_);(refine Cg _ (V.lss rfl rfl) AA (fun hB=>?_) (fun hB=>?_)<;>(try exact AW)<;>go_step))|(refine AG ?_;go_step)|fail)
   all_goals
    have S5:=AD (S3.out.same (Q:=R) fun x k1 k2=>hR2.out x (by omega))
    have S6:=AD (S4.out.same (Q:=R) fun x k1 k2=>hR2.out x (by omega))
    have R1:=AD hR1
    have R2:=AD hR2
    clear hR1 hR2
    by_cases hr:mid<en∧en<b
    ·obtain ⟨hr1,hr2⟩:=hr
     have HC:=AD (fun (w:World)(hS:St W w (CW g n c R::rs'))=>IH.out W w (CW g n c R::rs') rs' g n c mid en b R g6 hS AT.head hr1 hr2 hb hn S5.out S6.out)
     repeat' (first
      | (refine A3 139 ?_);refine A4 AA Tryz.call139 (HC.out _ hS) ?_;rintro e w ⟨rfl,Z,hZ1,hZ2,hS2⟩;replace hS:=hS2;clear hS2;refine Ae ?_;go_step|refine X1 ?_|refine FJ ?_|refine EN 208 ?_ ?_<;>intro hB<;>(try exact AW)<;>go_step|refine X4 212 ?_|refine AG ?_;go_step|fail)
     go_end0
     obtain ⟨j1,j2⟩:=Bh (show a≤mid by omega) (show mid≤b by omega) (show b≤Q.length by rw [hQn];exact hb) HX.out R2.out hZ2 R1.out hZ1
     exact ⟨rfl,Z,j1,HQR.out.trans j2,hS⟩
    have hZ1:Dl DN.w mid b R:=by
     by_cases c1:mid<en
     ·exact S5.out.sub (Nat.le_refl _) (by omega)
     exact S6.out.sub (by omega) (Nat.le_refl _)
    repeat' (first
     | go_skip|((with_reducible refine JG ?_);(first|go_big_want|go_step);go_step)|((with_reducible refine An _ (.pick _ _ _) ?_);first|(refine BJ rfl AA ?_;go_step)|(refine BC rfl AA ?_;go_step))|((refine AS 208 ?_);(refine Cg _ (V.lss rfl rfl) AA (fun hB=>?_) (fun hB=>?_)<;>(try exact AW)<;>go_step))|((refine AS 212 ?_);(refine As AA (V.lss rfl rfl) ?_;go_step))|(refine AG ?_;go_step)|fail)
    all_goals
     go_end0
     obtain ⟨j1,j2⟩:=Bh (show a≤mid by omega) (show mid≤b by omega) (show b≤Q.length by rw [hQn];exact hb) HX.out R2.out (Rg.refl _ _ _) R1.out hZ1
     exact ⟨rfl,R,j1,HQR.out.trans j2,hS⟩
  obtain ⟨Q,hQe,hQ⟩:∃Q,Q=P∧NL st m en P Q:=⟨P,rfl,NL.triv (by omega) (by omega) (by omega) (by omega)⟩
  rw [←hQe] at hS
  repeat' (first
   | refine WM 177 ?_|go_skip|refine X0 ?_|refine Gz ?_|refine EN 180 ?_ ?_<;>intro hB<;>(try exact AW)<;>go_step|refine AG ?_;go_step|fail)
  all_goals
   obtain ⟨s1,s2,s3,s4,hx⟩:=GC HA1.out HA2.out ham hmb hmid (show en=mid+m-st by omega) (by omega) (by omega) (by omega) (by omega) (by omega) HLO2.out HHI2.out hQ
   have hQr:=hQ.rg (show st≤m by omega) (show m≤en by omega)
   have hQl:=hQr.len
   have HQR:=AD (hQr.wide (show a≤st by omega) (show en≤b by omega) (by omega) (by omega))
   have HX:=AD hx
   have S1:=AD s1
   have S2:=AD s2
   have S3:=AD s3
   have S4:=AD s4
   have g1:a≤st:=by omega
   have g2:st≤mid:=by omega
   have g3:mid≤en:=by omega
   have g4:en≤b:=by omega
   have g5:mid-a≤N:=by omega
   have g6:b-mid≤N:=by omega
   have g7:a<mid:=by omega
   have g8:mid<b:=by omega
   have hQn:Q.length=n:=by omega
   clear hx s1 s2 s3 s4 hQ hQr HLO2 HHI2 HA1 HA2 F5 HS0a HS0b HR0a HR0b hen hlt hk hst hr f5 f1 f2 f3 f4 hT hmid e1 e2 hc h1' h2' hN hrot hQl hPl hp ham hmb
   by_cases hl:a<st∧st<mid
   ·obtain ⟨hl1,hl2⟩:=hl
    have hb2:mid≤n:=by omega
    have HC:=AD (fun (w:World)(hS:St W w (CW g n c Q::rs'))=>IH.out W w (CW g n c Q::rs') rs' g n c a st mid Q g5 hS AT.head hl1 hl2 hb2 hn S1.out S2.out)
    repeat' (first
     | (refine A3 139 ?_);refine A4 AA Tryz.call139 (HC.out _ hS) ?_;rintro e w ⟨rfl,R,hR1,hR2,hS2⟩;replace hS:=hS2;clear hS2;refine Ae ?_;go_step|refine X1 ?_|refine FJ ?_|refine EN 194 ?_ ?_<;>intro hB<;>(try exact AW)<;>go_step|refine X4 198 ?_|refine AG ?_;go_step|fail)
    have S5:=AD (S3.out.same (Q:=R) fun x k1 k2=>hR2.out x (by omega))
    have S6:=AD (S4.out.same (Q:=R) fun x k1 k2=>hR2.out x (by omega))
    have R1:=AD hR1
    have R2:=AD hR2
    clear hR1 hR2
    by_cases hr:mid<en∧en<b
    ·obtain ⟨hr1,hr2⟩:=hr
     have HC:=AD (fun (w:World)(hS:St W w (CW g n c R::rs'))=>IH.out W w (CW g n c R::rs') rs' g n c mid en b R g6 hS AT.head hr1 hr2 hb hn S5.out S6.out)
     repeat' (first
      | (refine A3 139 ?_);refine A4 AA Tryz.call139 (HC.out _ hS) ?_;rintro e w ⟨rfl,Z,hZ1,hZ2,hS2⟩;replace hS:=hS2;clear hS2;refine Ae ?_;go_step|refine X1 ?_|refine FJ ?_|refine EN 208 ?_ ?_<;>intro hB<;>(try exact AW)<;>go_step|refine X4 212 ?_|refine AG ?_;go_step|fail)
     go_end0
     obtain ⟨j1,j2⟩:=Bh (show a≤mid by omega) (show mid≤b by omega) (show b≤Q.length by rw [hQn];exact hb) HX.out R2.out hZ2 R1.out hZ1
     exact ⟨rfl,Z,j1,HQR.out.trans j2,hS⟩
    have hZ1:Dl DN.w mid b R:=by
     by_cases c1:mid<en
     ·exact S5.out.sub (Nat.le_refl _) (by omega)
     exact S6.out.sub (by omega) (Nat.le_refl _)
    repeat' (first
     | go_skip|((with_reducible refine JG ?_);(first|go_big_want|go_step);go_step)|((with_reducible refine An _ (.pick _ _ _) ?_);first|(refine BJ rfl AA ?_;go_step)|(refine BC rfl AA ?_;go_step))|((refine AS 208 ?_);(refine Cg _ (V.lss rfl rfl) AA (fun hB=>?_) (fun hB=>?_)<;>(try exact AW)<;>go_step))|((refine AS 212 ?_);(refine As AA (V.lss rfl rfl) ?_;go_step))|(refine AG ?_;go_step)|fail)
    all_goals
     go_end0
     obtain ⟨j1,j2⟩:=Bh (show a≤mid by omega) (show mid≤b by omega) (show b≤Q.length by rw [hQn];exact hb) HX.out R2.out (Rg.refl _ _ _) R1.out hZ1
     exact ⟨rfl,R,j1,HQR.out.trans j2,hS⟩
   obtain ⟨R,hRe⟩:∃R,R=Q:=⟨Q,rfl⟩
   have hR2:Rg a mid Q R:=by rw [hRe];exact Rg.refl _ _ _
   have hR1:Dl DN.w a mid R:=by
    rw [hRe]
    by_cases c1:a<st
    ·exact S1.out.sub (Nat.le_refl _) (by omega)
    exact S2.out.sub (by omega) (Nat.le_refl _)
   rw [←hRe] at hS
   repeat' (first
    | go_skip|((with_reducible refine JG ?_);(first|go_big_want|go_step);go_step)|((with_reducible refine An _ (.pick _ _ _) ?_);first|(refine BJ rfl AA ?_;go_step)|(refine BC rfl AA ?_;go_step))|((refine AS 194 ?_);(refine Cg _ (V.lss rfl rfl) AA (fun hB=>?_) (fun hB=>?_)<;>(try exact AW)<;>go_step))|((refine AS 198 ?_);(refine As AA (V.lss rfl rfl) ?_;go_step))|(refine AG ?_;go_step)|fail)
   all_goals
    have S5:=AD (S3.out.same (Q:=R) fun x k1 k2=>hR2.out x (by omega))
    have S6:=AD (S4.out.same (Q:=R) fun x k1 k2=>hR2.out x (by omega))
    have R1:=AD hR1
    have R2:=AD hR2
    clear hR1 hR2
    by_cases hr:mid<en∧en<b
    ·obtain ⟨hr1,hr2⟩:=hr
     have HC:=AD (fun (w:World)(hS:St W w (CW g n c R::rs'))=>IH.out W w (CW g n c R::rs') rs' g n c mid en b R g6 hS AT.head hr1 hr2 hb hn S5.out S6.out)
     repeat' (first
      | (refine A3 139 ?_);refine A4 AA Tryz.call139 (HC.out _ hS) ?_;rintro e w ⟨rfl,Z,hZ1,hZ2,hS2⟩;replace hS:=hS2;clear hS2;refine Ae ?_;go_step|refine X1 ?_|refine FJ ?_|refine EN 208 ?_ ?_<;>intro hB<;>(try exact AW)<;>go_step|refine X4 212 ?_|refine AG ?_;go_step|fail)
     go_end0
     obtain ⟨j1,j2⟩:=Bh (show a≤mid by omega) (show mid≤b by omega) (show b≤Q.length by rw [hQn];exact hb) HX.out R2.out hZ2 R1.out hZ1
     exact ⟨rfl,Z,j1,HQR.out.trans j2,hS⟩
    have hZ1:Dl DN.w mid b R:=by
     by_cases c1:mid<en
     ·exact S5.out.sub (Nat.le_refl _) (by omega)
     exact S6.out.sub (by omega) (Nat.le_refl _)
    repeat' (first
     | go_skip|((with_reducible refine JG ?_);(first|go_big_want|go_step);go_step)|((with_reducible refine An _ (.pick _ _ _) ?_);first|(refine BJ rfl AA ?_;go_step)|(refine BC rfl AA ?_;go_step))|((refine AS 208 ?_);(refine Cg _ (V.lss rfl rfl) AA (fun hB=>?_) (fun hB=>?_)<;>(try exact AW)<;>go_step))|((refine AS 212 ?_);(refine As AA (V.lss rfl rfl) ?_;go_step))|(refine AG ?_;go_step)|fail)
    all_goals
     go_end0
     obtain ⟨j1,j2⟩:=Bh (show a≤mid by omega) (show mid≤b by omega) (show b≤Q.length by rw [hQn];exact hb) HX.out R2.out (Rg.refl _ _ _) R1.out hZ1
     exact ⟨rfl,R,j1,HQR.out.trans j2,hS⟩
end Go.Proofs.YtohacgmhmbijmaaGreatDoor
