/- What the laws RescueHurt need, part 13. -/
import Derived.Test.YtohacgmhmbijmaaGreatDoorBaseHZ2
import Derived.Test.YtohacgmhmbijmaaGreatDoorBaseHZ3
import Derived.Test.YtohacgmhmbijmaaGreatDoorBaseHZ12
namespace Go.Proofs.YtohacgmhmbijmaaGreatDoor
attribute [local irreducible] Region.wanted
open Go.RowKit
set_option linter.unusedVariables false
set_option maxRecDepth 100000
set_option maxHeartbeats 8000000
theorem Ib(N:Nat):∀(W w0:World)(rs rs':List Ar)(g n c a m b:Nat)(P:List DY),b-a≤N→St W w0 rs→AT (Cb g n c P) rs rs'→a<m→m<b→b≤n→n≤1000000→D6 DY.w a m P→D6 DY.w m b P→
 Calls Tryz.prog 139 #[.slice (some ⟨g,0,none⟩) n c, .int .i64 a, .int .i64 m, .int .i64 b,dJ] w0 fun e w=>e= .returned (.tuple #[])∧∃Q,D6 DY.w a b Q∧Rg a b P Q∧St W w (Cb g n c Q::rs'):=by
 induction N with
 | zero=>intro W w0 rs rs' g n c a m b P hN;omega
 | succ N ih=>
 intro W w0 rs rs' g n c a m b P hN hS hp ham hmb hb hn hA1 hA2
 replace hS:=hS.pull hp
 have he:=Cx
 have h1e:=NZ
 have hPl:=EY hS AT.head Cx (by decide)
 have IH:=AD ih
 have HA1:=AD hA1
 have HA2:=AD hA2
 clear ih hA1 hA2
 by_cases h1:m-a=1
 ·obtain rfl:m=a+1:=by omega
  go_enter Tryz.func139,Tryz.ntmps139
  repeat' (first
   | (refine AQ 27 ?_);(refine Ag (.int _ (1)) (V.as (V.subI rfl rfl (by omega)) (by omega)) (by kernel_rfl) ?_;go_step)|refine X0 ?_|refine KM 28 ?_|refine AG ?_;go_step|fail)
  go_loopg [10,11] (b-(a+1)) (fun gk iv jv w=>∃(i j:Nat),gk+i=j∧a+1≤i∧j≤b∧iv= .int .i64 i∧jv= .int .i64 j∧(∀x,a+1≤x→x<i→wk P x≤wk P a)∧(∀x,j≤x→x<b→wk P a≤wk P x)∧St W w (Cb g n c P::rs'))
  case atStart=>exact ⟨a+1,b,by omega,by omega,by omega,rfl,rfl,fun x h1 h2=>by omega,fun x h1 h2=>by omega,hS⟩
  case round=>
   clear hS
   obtain ⟨i,j,hk,hi,hj,rfl,rfl,hlo,hhi,hS⟩:=hrel
   have HLO:=AD hlo
   have HHI:=AD hhi
   clear hlo hhi
   by_cases hlt:i<j
   ·obtain ⟨h,hh⟩:∃h,h=(i+j)/2:=⟨_,rfl⟩
    obtain ⟨v,hv⟩:∃v,Ln (Am P h).w (Am P a).w=v:=⟨_,rfl⟩
    have hv2:=IC (Am P h).w (Am P a).w
    rw [hv] at hv2
    have HV:=AD hv
    have HV2:=AD hv2
    clear hv hv2
    repeat' (first
     | (refine AQ 36 ?_);(refine Ag (.int _ (((i+j:Nat):Int))) (V.as (V.addI rfl rfl (by omega)) (by omega)) (by kernel_rfl) ?_;go_step)|refine Xs 38 ?_|refine X0 ?_|refine X5 33 ?_|refine S7 37 ?_|refine S0 39 ?_|refine AG ?_;go_step|fail)
    refine AP [9] (fun w=>St W w (Cb g n c P::rs')) AA ?_
    replace hS:=hS.drew
    focus
     refine AZ 0 ?_
     refine AZ 1 ?_
     refine AZ 2 ?_
     refine Y4 3 ?_
     refine Y6 4 [9,10] ?_
     refine AZ 5 ?_
     refine AZ 6 ?_
     refine Y4 7 ?_
     refine Y6 8 [9,10] ?_
     refine Av 9 ?_
     refine BJ (f:=104) rfl rfl Tryz.call104 (DI _ (Am P h) (Am P a)) ?_;rintro e w ⟨rfl,hE⟩;replace hS:=hS.ext hE;clear hE;rw [HV.out];refine ⟨_,rfl,?_⟩
     refine ⟨fun h=>absurd (by decide) h,?_⟩
     refine AI ?_
     go_step
     refine BZ 10 BN (V.lss rfl rfl) ?_;go_step
     refine AE AA ?_ _
    by_cases hc:v<0
    ·repeat' (first
      | refine Xr 52 ?_|refine X0 ?_|refine AG ?_;go_step|fail)
     go_roundg (j-(h+1))
     case measure=>omega
     case rel=>
      refine ⟨h+1,j,by omega,by omega,by omega,by go_num,rfl,fun x k1 k2=>?_,HHI.out,hS⟩
      have:=HA2.out x h k1 (by omega) (by omega)
      have:=HV2.out.1 hc
      show (Am P x).w≤(Am P a).w
      omega
    repeat' (first
     | refine X0 ?_|refine AG ?_;go_step|fail)
    go_roundg (h-i)
    case measure=>omega
    case rel=>
     refine ⟨i,h,by omega,by omega,by omega,rfl,by go_num,HLO.out,fun x k1 k2=>?_,hS⟩
     have:=HA2.out h x (by omega) k1 (by omega)
     have:=HV2.out
     show (Am P a).w≤(Am P x).w
     omega
   obtain rfl:i=j:=by omega
   obtain ⟨p,rfl⟩:∃p,i=p+1:=⟨i-1,by omega⟩
   repeat' (first
    | refine X0 ?_|refine X5 33 ?_|refine AG ?_;go_step|fail)
   repeat' (first
    | refine AG ?_;go_step|fail)
   go_loopg [13] (p-a) (fun gk kv w=>∃(k:Nat) (Q:List DY),gk+k=p∧a≤k∧kv= .int .i64 k∧XY a k P Q∧Rg a b P Q∧St W w (Cb g n c Q::rs'))
   case atStart=>exact ⟨a,P,by omega,by omega,rfl,XY.refl a P,Rg.refl a b P,hS⟩
   case round=>
    clear hS
    obtain ⟨k,Q,hk2,hak,rfl,hU,hR,hS⟩:=hrel
    have HU:=AD hU
    have HR:=AD hR
    clear hU hR
    by_cases hlt2:k<p
    ·repeat' (first
      | (refine AQ 57 ?_);(refine Ag (.int _ (((p:Nat):Int))) (V.as (V.subI rfl rfl (by omega)) (by omega)) (by kernel_rfl) ?_;go_step)|refine X1 ?_|refine X5 58 ?_|refine AG ?_;go_step|fail)
     refine AP [15,17] (fun w=>St W w (Cb g n c Q::rs')) AA ?_
     replace hS:=hS.drew
     focus
      refine AZ 0 ?_
      refine AZ 1 ?_
      refine AZ 2 ?_
      refine AZ 3 ?_
      (refine BV 4 (.int _ (((k+1:Nat):Int))) Aj AA AA AA Be (V.as (V.addI rfl rfl (by omega)) (by omega)) AA ?_)
      go_step
      refine AZ 5 ?_
      refine AZ 6 ?_
      (refine BV 7 (.int _ (((k+1:Nat):Int))) Aj AA AA AA Be (V.as (V.addI rfl rfl (by omega)) (by omega)) AA ?_)
      go_step
      refine Y4 8 ?_
      refine Y6 9 [14,15,16,17] ?_
      refine AZ 10 ?_
      refine AZ 11 ?_
      refine Y4 12 ?_
      refine Y6 13 [14,15,16,17] ?_
      refine Y4 14 ?_
      refine Av 15 ?_
      refine Zr ?_;clear hS;intro w hS
      refine Y4 16 ?_
      refine Av 17 ?_
      refine Zr ?_;clear hS;intro w hS
      refine AE AA ?_ _
     repeat' (first
      | refine Un 60 ?_|refine X0 ?_|refine AG ?_;go_step|fail)
     go_roundg (gk-1)
     case measure=>omega
     case rel=>exact ⟨k+1,P3 Q k (k+1),by omega,by omega,by go_num,HU.out.step (by omega) (by omega),HR.out.trans (Nq _ _ _ _ _ (by omega) (by omega) (by omega) (by omega) (by rw [HR.out.len];omega)),hS⟩
    obtain rfl:k=p:=by omega
    repeat' (first
     | (refine AQ 57 ?_);(refine Ag (.int _ (((k:Nat):Int))) (V.as (V.subI rfl rfl (by omega)) (by omega)) (by kernel_rfl) ?_;go_step)|refine X1 ?_|refine X5 58 ?_|refine AG ?_;go_step|fail)
    refine bodyPost_ret (results_none rfl _ _ _) rfl ?_
    refine ⟨rfl,Q,HU.out.asc HA2.out hak (by omega) (fun h=>HLO.out k (by omega) (by omega)) (fun h=>HHI.out (k+1) (Nat.le_refl _) h),HR.out,hS⟩
 by_cases h2:b-m=1
 ·obtain rfl:b=m+1:=by omega
  go_enter Tryz.func139,Tryz.ntmps139
  repeat' (first
   | (refine AQ 27 ?_);(refine Ag (.int _ (((m-a:Nat):Int))) (V.as (V.subI rfl rfl (by omega)) (by omega)) (by kernel_rfl) ?_;go_step)|refine X1 ?_|refine KM 28 ?_|refine AG ?_;go_step|fail)
  repeat' (first
   | (refine AQ 79 ?_);(refine Ag (.int _ (1)) (V.as (V.subI rfl rfl (by omega)) (by omega)) (by kernel_rfl) ?_;go_step)|refine X0 ?_|refine KM 80 ?_|refine AG ?_;go_step|fail)
  go_loopg [14,15] (m-a) (fun gk iv jv w=>∃(i j:Nat),gk+i=j∧a≤i∧j≤m∧iv= .int .i64 i∧jv= .int .i64 j∧(∀x,a≤x→x<i→wk P x≤wk P m)∧(∀x,j≤x→x<m→wk P m≤wk P x)∧St W w (Cb g n c P::rs'))
  case atStart=>exact ⟨a,m,by omega,by omega,by omega,rfl,rfl,fun x h1 h2=>by omega,fun x h1 h2=>by omega,hS⟩
  case round=>
   clear hS
   obtain ⟨i,j,hk,hi,hj,rfl,rfl,hlo,hhi,hS⟩:=hrel
   have HLO:=AD hlo
   have HHI:=AD hhi
   clear hlo hhi
   by_cases hlt:i<j
   ·obtain ⟨h,hh⟩:∃h,h=(i+j)/2:=⟨_,rfl⟩
    obtain ⟨v,hv⟩:∃v,Ln (Am P m).w (Am P h).w=v:=⟨_,rfl⟩
    have hv2:=IC (Am P m).w (Am P h).w
    rw [hv] at hv2
    have HV:=AD hv
    have HV2:=AD hv2
    clear hv hv2
    repeat' (first
     | (refine AQ 88 ?_);(refine Ag (.int _ (((i+j:Nat):Int))) (V.as (V.addI rfl rfl (by omega)) (by omega)) (by kernel_rfl) ?_;go_step)|refine Xs 90 ?_|refine X0 ?_|refine X5 85 ?_|refine S7 89 ?_|refine S0 91 ?_|refine AG ?_;go_step|fail)
    refine AP [9] (fun w=>St W w (Cb g n c P::rs')) AA ?_
    replace hS:=hS.drew
    focus
     refine AZ 0 ?_
     refine AZ 1 ?_
     refine AZ 2 ?_
     refine Y4 3 ?_
     refine Y6 4 [9,10,11] ?_
     refine AZ 5 ?_
     refine AZ 6 ?_
     refine Y4 7 ?_
     refine Y6 8 [9,10,11] ?_
     refine Av 9 ?_
     refine BJ (f:=104) rfl rfl Tryz.call104 (DI _ (Am P m) (Am P h)) ?_;rintro e w ⟨rfl,hE⟩;replace hS:=hS.ext hE;clear hE;rw [HV.out];refine ⟨_,rfl,?_⟩
     refine ⟨fun h=>absurd (by decide) h,?_⟩
     refine AI ?_
     go_step
     refine BZ 10 BN (V.lss rfl rfl) ?_;go_step
     refine BZ 11 BN (V.notD rfl) ?_;go_step
     refine AE AA ?_ _
    by_cases hc:v<0
    ·repeat' (first
      | refine X0 ?_|refine AG ?_;go_step|fail)
     go_roundg (h-i)
     case measure=>omega
     case rel=>
      refine ⟨i,h,by omega,by omega,by omega,rfl,by go_num,HLO.out,fun x k1 k2=>?_,hS⟩
      have:=HA1.out h x (by omega) k1 (by omega)
      have:=HV2.out.1 hc
      show (Am P m).w≤(Am P x).w
      omega
    repeat' (first
     | refine Xr 105 ?_|refine X0 ?_|refine AG ?_;go_step|fail)
    go_roundg (j-(h+1))
    case measure=>omega
    case rel=>
     refine ⟨h+1,j,by omega,by omega,by omega,by go_num,rfl,fun x k1 k2=>?_,HHI.out,hS⟩
     have:=HA1.out x h k1 (by omega) (by omega)
     have:=HV2.out
     show (Am P x).w≤(Am P m).w
     omega
   obtain rfl:i=j:=by omega
   repeat' (first
    | refine X0 ?_|refine X5 85 ?_|refine AG ?_;go_step|fail)
   repeat' (first
    | refine AG ?_;go_step|fail)
   go_loopg [17] (m-i) (fun gk kv w=>∃(k:Nat) (Q:List DY),gk+i=k∧k≤m∧kv= .int .i64 k∧Dn m k P Q∧Rg a (m+1) P Q∧St W w (Cb g n c Q::rs'))
   case atStart=>exact ⟨m,P,by omega,by omega,rfl,Dn.refl m P,Rg.refl a _ P,hS⟩
   case round=>
    clear hS
    obtain ⟨k,Q,hk2,hkm,rfl,hU,hR,hS⟩:=hrel
    have HU:=AD hU
    have HR:=AD hR
    clear hU hR
    by_cases hlt2:i<k
    ·obtain ⟨q,rfl⟩:∃q,k=q+1:=⟨k-1,by omega⟩
     repeat' (first
      | refine X1 ?_|refine KN 110 ?_|refine AG ?_;go_step|fail)
     refine AP [15,17] (fun w=>St W w (Cb g n c Q::rs')) AA ?_
     replace hS:=hS.drew
     focus
      refine AZ 0 ?_
      refine AZ 1 ?_
      refine AZ 2 ?_
      refine AZ 3 ?_
      (refine BV 4 (.int _ (((q:Nat):Int))) Aj AA AA AA Be (V.as (V.subI rfl rfl (by omega)) (by omega)) AA ?_)
      go_step
      refine AZ 5 ?_
      refine AZ 6 ?_
      (refine BV 7 (.int _ (((q:Nat):Int))) Aj AA AA AA Be (V.as (V.subI rfl rfl (by omega)) (by omega)) AA ?_)
      go_step
      refine Y4 8 ?_
      refine Y6 9 [14,15,16,17] ?_
      refine AZ 10 ?_
      refine AZ 11 ?_
      refine Y4 12 ?_
      refine Y6 13 [14,15,16,17] ?_
      refine Y4 14 ?_
      refine Av 15 ?_
      refine Zr ?_;clear hS;intro w hS
      refine Y4 16 ?_
      refine Av 17 ?_
      refine Zr ?_;clear hS;intro w hS
      refine AE AA ?_ _
     repeat' (first
      | (refine AQ 112 ?_);(refine Ag (.int _ (((q:Nat):Int))) (V.as (V.subI rfl rfl (by omega)) (by omega)) (by kernel_rfl) ?_;go_step)|refine X0 ?_|refine AG ?_;go_step|fail)
     go_roundg (gk-1)
     case measure=>omega
     case rel=>exact ⟨q,P3 Q (q+1) q,by omega,by omega,by go_num,HU.out.step (by omega) (by omega) (by omega),HR.out.trans (Nq _ _ _ _ _ (by omega) (by omega) (by omega) (by omega) (by rw [HR.out.len];omega)),hS⟩
    obtain rfl:k=i:=by omega
    repeat' (first
     | refine X1 ?_|refine KN 110 ?_|refine AG ?_;go_step|fail)
    refine bodyPost_ret (results_none rfl _ _ _) rfl ?_
    refine ⟨rfl,Q,HU.out.asc HA1.out hi (by omega) (fun h=>HLO.out (k-1) (by omega) (by omega)) (fun h=>HHI.out k (Nat.le_refl _) h),HR.out,hS⟩
 obtain ⟨mid,hmid⟩:∃mid,mid=(a+b)/2:=⟨_,rfl⟩
 obtain ⟨T,hT⟩:∃T,T=mid+m:=⟨_,rfl⟩
 obtain ⟨s0,hs0⟩:∃s0,s0=if mid<m then T-b else a:=⟨_,rfl⟩
 obtain ⟨r0,hr0⟩:∃r0,r0=if mid<m then mid else m:=⟨_,rfl⟩
 have hs0a:mid<m→s0=T-b:=fun h=>by rw [hs0,if_pos h]
 have hs0b:¬mid<m→s0=a:=fun h=>by rw [hs0,if_neg h]
 have hr0a:mid<m→r0=mid:=fun h=>by rw [hr0,if_pos h]
 have hr0b:¬mid<m→r0=m:=fun h=>by rw [hr0,if_neg h]
 clear hs0 hr0
 have hF:s0≤r0∧a≤s0∧r0≤mid∧r0≤m∧(∀st,s0≤st→st≤r0→m≤T-st∧T-st≤b∧st≤T):=by
  by_cases hc:mid<m
  ·have:=hs0a hc;have:=hr0a hc
   exact ⟨by omega,by omega,by omega,by omega,fun st k1 k2=>by omega⟩
  have:=hs0b hc;have:=hr0b hc
  exact ⟨by omega,by omega,by omega,by omega,fun st k1 k2=>by omega⟩
 obtain ⟨f1,f2,f3,f4,f5⟩:=hF
 have F5:=AD f5
 clear f5
 have HS0a:=AD hs0a
 have HS0b:=AD hs0b
 have HR0a:=AD hr0a
 have HR0b:=AD hr0b
 clear hs0a hs0b hr0a hr0b
 obtain ⟨d1,hd1⟩:∃d,d=m-a:=⟨_,rfl⟩
 obtain ⟨d2,hd2⟩:∃d,d=b-m:=⟨_,rfl⟩
 go_enter Tryz.func139,Tryz.ntmps139
 repeat' (first
  | (refine AQ 27 ?_);(refine Ag (.int _ (((d1:Nat):Int))) (V.as (V.subI rfl rfl (by omega)) (by omega)) (by kernel_rfl) ?_;go_step)|refine X1 ?_|refine KM 28 ?_|refine AG ?_;go_step|fail)
 repeat' (first
  | (refine AQ 79 ?_);(refine Ag (.int _ (((d2:Nat):Int))) (V.as (V.subI rfl rfl (by omega)) (by omega)) (by kernel_rfl) ?_;go_step)|refine X1 ?_|refine KM 80 ?_|refine AG ?_;go_step|fail)
 have h1':a+2≤m:=by omega
 have h2':m+2≤b:=by omega
 clear h1 h2 hd1 hd2
 by_cases hc:mid<m
 ·have e1:=HS0a.out hc
  have e2:=HR0a.out hc
  repeat' (first
   | (refine AQ 131 ?_);(refine Ag (.int _ (((a+b:Nat):Int))) (V.as (V.addI rfl rfl (by omega)) (by omega)) (by kernel_rfl) ?_;go_step)|(refine AQ 133 ?_);(refine Ag (.int _ (((mid:Nat):Int))) (V.as (V.shr rfl rfl A9 (by omega) rfl) (by omega)) (by kernel_rfl) ?_;go_step)|(refine AQ 137 ?_);(refine Ag (.int _ (((T:Nat):Int))) (V.as (V.addI rfl rfl (by omega)) (by omega)) (by kernel_rfl) ?_;go_step)|(refine AQ 143 ?_);(refine Ag (.int _ (((s0:Nat):Int))) (V.as (V.subI rfl rfl (by omega)) (by omega)) (by kernel_rfl) ?_;go_step)|refine X0 ?_|refine S7 132 ?_|refine S0 134 ?_|refine KN 140 ?_|refine AG ?_;go_step|fail)
  repeat' (first
   | (refine AQ 148 ?_);(refine Ag (.int _ (((T-1:Nat):Int))) (V.as (V.subI rfl rfl (by omega)) (by omega)) (by kernel_rfl) ?_;go_step)|refine X8 ?_|refine AG ?_;go_step|fail)
  go_loopg [20,21] (r0-s0) (fun gk iv jv w=>∃(st r:Nat),gk+st=r∧s0≤st∧r≤r0∧iv= .int .i64 st∧jv= .int .i64 r∧(s0<st→wk P (st-1)≤wk P (T-st))∧(r<r0→wk P (T-1-r)≤wk P r)∧St W w (Cb g n c P::rs'))
  case atStart=>exact ⟨s0,r0,by omega,by omega,by omega,by first|rfl|rw [e1],by first|rfl|rw [e2],fun h=>by omega,fun h=>by omega,hS⟩
  case round=>
   clear hS
   obtain ⟨st,r,hk,hst,hr,rfl,rfl,hlo,hhi,hS⟩:=hrel
   have HLO:=AD hlo
   have HHI:=AD hhi
   clear hlo hhi
   have f5:=F5.out st hst (by omega)
   by_cases hlt:st<r
   ·obtain ⟨h,hh⟩:∃h,h=(st+r)/2:=⟨_,rfl⟩
    obtain ⟨y,hy⟩:∃y,y=T-1-h:=⟨_,rfl⟩
    have f6:=F5.out (h+1) (by omega) (by omega)
    obtain ⟨v,hv⟩:∃v,Ln (Am P y).w (Am P h).w=v:=⟨_,rfl⟩
    have hv2:=IC (Am P y).w (Am P h).w
    rw [hv] at hv2
    have HV:=AD hv
    have HV2:=AD hv2
    clear hv hv2
    repeat' (first
     | (refine AQ 154 ?_);(refine Ag (.int _ (((st+r:Nat):Int))) (V.as (V.addI rfl rfl (by omega)) (by omega)) (by kernel_rfl) ?_;go_step)|refine Xs 156 ?_|refine X0 ?_|refine X5 151 ?_|refine S7 155 ?_|refine S0 157 ?_|refine AG ?_;go_step|fail)
    refine AP [11] (fun w=>St W w (Cb g n c P::rs')) AA ?_
    replace hS:=hS.drew
    focus
     refine AZ 0 ?_
     refine AZ 1 ?_
     refine AZ 2 ?_
     refine AZ 3 ?_
     (refine BV 4 (.int _ (((y:Nat):Int))) Aj AA AA AA Be (V.as (V.subI rfl rfl (by omega)) (by omega)) AA ?_)
     go_step
     refine Y4 5 ?_
     refine Y6 6 [11,12,13] ?_
     refine AZ 7 ?_
     refine AZ 8 ?_
     refine Y4 9 ?_
     refine Y6 10 [11,12,13] ?_
     refine Av 11 ?_
     refine BJ (f:=104) rfl rfl Tryz.call104 (DI _ (Am P y) (Am P h)) ?_;rintro e w ⟨rfl,hE⟩;replace hS:=hS.ext hE;clear hE;rw [HV.out];refine ⟨_,rfl,?_⟩
     refine ⟨fun h=>absurd (by decide) h,?_⟩
     refine AI ?_
     go_step
     refine BZ 12 BN (V.lss rfl rfl) ?_;go_step
     refine BZ 13 BN (V.notD rfl) ?_;go_step
     refine AE AA ?_ _
    by_cases hc2:v<0
    ·repeat' (first
      | refine X0 ?_|refine AG ?_;go_step|fail)
     go_roundg (h-st)
     case measure=>omega
     case rel=>
      refine ⟨st,h,by omega,by omega,by omega,rfl,by go_num,HLO.out,fun k1=>?_,hS⟩
      have:=HV2.out.1 hc2
      rw [←hy]
      exact Int.le_of_lt this
    repeat' (first
     | refine Xr 173 ?_|refine X0 ?_|refine AG ?_;go_step|fail)
    go_roundg (r-(h+1))
    case measure=>omega
    case rel=>
     refine ⟨h+1,r,by omega,by omega,by omega,by go_num,rfl,fun k1=>?_,HHI.out,hS⟩
     have:=HV2.out
     rw [show T-(h+1)=y by omega,Nat.add_sub_cancel]
     show (Am P h).w≤(Am P y).w
     omega
   obtain rfl:st=r:=by omega
   obtain ⟨en,hen⟩:∃en,en=T-st:=⟨_,rfl⟩
   have HLO2:Hid (a<st→m≤en→en<b→wk P (st-1)≤wk P en):=fun k1 k2 k3=>by
    rw [hen];exact HLO.out (by omega)
   have HHI2:Hid (m<en→st<m→wk P (en-1)≤wk P st):=fun k1 k2=>by
    rw [show en-1=T-1-st by omega];exact HHI.out (by omega)
   clear HLO HHI
   repeat' (first
    | refine X1 ?_|refine X5 151 ?_|refine AG ?_;go_step|fail)
   by_cases hrot:st<m∧m<en
   ·have hrot1:=hrot.1
    have hrot2:=hrot.2
    repeat' (first
     | refine Xq 177 ?_|(refine As 145 ?_);refine At AA Tryz.call145 (K4 W _ _ rs' g n c st m en P hS AT.head hrot1 hrot2 (by omega) hn dJ) ?_;rintro e w ⟨rfl,Q,hQ,hS2⟩;replace hS:=hS2;clear hS2;refine Ac ?_;go_step|refine X0 ?_|refine Fi ?_|refine Ei 180 ?_ ?_<;>intro hB<;>(try exact AR)<;>go_step|refine X5 184 ?_|refine AG ?_;go_step|fail)
    obtain ⟨s1,s2,s3,s4,hx⟩:=Gk HA1.out HA2.out ham hmb hmid (show en=mid+m-st by omega) (by omega) (by omega) (by omega) (by omega) (by omega) HLO2.out HHI2.out hQ
    have hQr:=hQ.rg (show st≤m by omega) (show m≤en by omega)
    have hQl:=hQr.len
    have HQR:=AD (hQr.wide (show a≤st by omega) (show en≤b by omega) (by omega) (by omega))
    have HX:=AD hx
    have S1:=AD s1
    have S2:=AD s2
    have S3:=AD s3
    have S4:=AD s4
    have g1:a≤st:=by omega
    have g2:st≤mid:=by omega
    have g3:mid≤en:=by omega
    have g4:en≤b:=by omega
    have g5:mid-a≤N:=by omega
    have g6:b-mid≤N:=by omega
    have g7:a<mid:=by omega
    have g8:mid<b:=by omega
    have hQn:Q.length=n:=by omega
    clear hx s1 s2 s3 s4 hQ hQr HLO2 HHI2 HA1 HA2 F5 HS0a HS0b HR0a HR0b hen hlt hk hst hr f5 f1 f2 f3 f4 hT hmid e1 e2 hc h1' h2' hN hrot hQl hPl hp ham hmb
    by_cases hl:a<st∧st<mid
    ·obtain ⟨hl1,hl2⟩:=hl
     have hb2:mid≤n:=by omega
     have HC:=AD (fun (w:World)(hS:St W w (Cb g n c Q::rs'))=>IH.out W w (Cb g n c Q::rs') rs' g n c a st mid Q g5 hS AT.head hl1 hl2 hb2 hn S1.out S2.out)
     repeat' (first
      | (refine As 139 ?_);refine At AA Tryz.call139 (HC.out _ hS) ?_;rintro e w ⟨rfl,R,hR1,hR2,hS2⟩;replace hS:=hS2;clear hS2;refine Ac ?_;go_step|refine X1 ?_|refine Fi ?_|refine Ei 194 ?_ ?_<;>intro hB<;>(try exact AR)<;>go_step|refine X5 198 ?_|refine AG ?_;go_step|fail)
     have S5:=AD (S3.out.same (Q:=R) fun x k1 k2=>hR2.out x (by omega))
     have S6:=AD (S4.out.same (Q:=R) fun x k1 k2=>hR2.out x (by omega))
     have R1:=AD hR1
     have R2:=AD hR2
     clear hR1 hR2
     by_cases hr:mid<en∧en<b
     ·obtain ⟨hr1,hr2⟩:=hr
      have HC:=AD (fun (w:World)(hS:St W w (Cb g n c R::rs'))=>IH.out W w (Cb g n c R::rs') rs' g n c mid en b R g6 hS AT.head hr1 hr2 hb hn S5.out S6.out)
      repeat' (first
       | (refine As 139 ?_);refine At AA Tryz.call139 (HC.out _ hS) ?_;rintro e w ⟨rfl,Z,hZ1,hZ2,hS2⟩;replace hS:=hS2;clear hS2;refine Ac ?_;go_step|refine X1 ?_|refine Fi ?_|refine Ei 208 ?_ ?_<;>intro hB<;>(try exact AR)<;>go_step|refine X5 212 ?_|refine AG ?_;go_step|fail)
      go_end0
      obtain ⟨j1,j2⟩:=Bg (show a≤mid by omega) (show mid≤b by omega) (show b≤Q.length by rw [hQn];exact hb) HX.out R2.out hZ2 R1.out hZ1
      exact ⟨rfl,Z,j1,HQR.out.trans j2,hS⟩
     have hZ1:D6 DY.w mid b R:=by
      by_cases c1:mid<en
      ·exact S5.out.sub (Nat.le_refl _) (by omega)
      exact S6.out.sub (by omega) (Nat.le_refl _)
     repeat' (first
      | refine X1 ?_|refine Fi ?_|refine Ei 208 ?_ ?_<;>intro hB<;>(try exact AR)<;>go_step|refine X5 212 ?_|refine AG ?_;go_step|fail)
     all_goals
      go_end0
      obtain ⟨j1,j2⟩:=Bg (show a≤mid by omega) (show mid≤b by omega) (show b≤Q.length by rw [hQn];exact hb) HX.out R2.out (Rg.refl _ _ _) R1.out hZ1
      exact ⟨rfl,R,j1,HQR.out.trans j2,hS⟩
    obtain ⟨R,hRe⟩:∃R,R=Q:=⟨Q,rfl⟩
    have hR2:Rg a mid Q R:=by rw [hRe];exact Rg.refl _ _ _
    have hR1:D6 DY.w a mid R:=by
     rw [hRe]
     by_cases c1:a<st
     ·exact S1.out.sub (Nat.le_refl _) (by omega)
     exact S2.out.sub (by omega) (Nat.le_refl _)
    rw [←hRe] at hS
    repeat' (first
     | go_skip|((with_reducible refine Io ?_);(first|go_big_want|go_step);go_step)|((with_reducible refine Ak _ (.pick _ _ _) ?_);first|(refine A6 rfl AA ?_;go_step)|(refine A3 rfl AA ?_;go_step))|((refine AQ 194 ?_);(refine CG _ (V.lss rfl rfl) AA (fun hB=>?_) (fun hB=>?_)<;>(try exact AR)<;>go_step))|((refine AQ 198 ?_);(refine An AA (V.lss rfl rfl) ?_;go_step))|(refine AG ?_;go_step)|fail)
    all_goals
     have S5:=AD (S3.out.same (Q:=R) fun x k1 k2=>hR2.out x (by omega))
     have S6:=AD (S4.out.same (Q:=R) fun x k1 k2=>hR2.out x (by omega))
     have R1:=AD hR1
     have R2:=AD hR2
     clear hR1 hR2
     by_cases hr:mid<en∧en<b
     ·obtain ⟨hr1,hr2⟩:=hr
      have HC:=AD (fun (w:World)(hS:St W w (Cb g n c R::rs'))=>IH.out W w (Cb g n c R::rs') rs' g n c mid en b R g6 hS AT.head hr1 hr2 hb hn S5.out S6.out)
      repeat' (first
       | (refine As 139 ?_);refine At AA Tryz.call139 (HC.out _ hS) ?_;rintro e w ⟨rfl,Z,hZ1,hZ2,hS2⟩;replace hS:=hS2;clear hS2;refine Ac ?_;go_step|refine X1 ?_|refine Fi ?_|refine Ei 208 ?_ ?_<;>intro hB<;>(try exact AR)<;>go_step|refine X5 212 ?_|refine AG ?_;go_step|fail)
      go_end0
      obtain ⟨j1,j2⟩:=Bg (show a≤mid by omega) (show mid≤b by omega) (show b≤Q.length by rw [hQn];exact hb) HX.out R2.out hZ2 R1.out hZ1
      exact ⟨rfl,Z,j1,HQR.out.trans j2,hS⟩
     have hZ1:D6 DY.w mid b R:=by
      by_cases c1:mid<en
      ·exact S5.out.sub (Nat.le_refl _) (by omega)
      exact S6.out.sub (by omega) (Nat.le_refl _)
     repeat' (first
      | refine X1 ?_|refine Fi ?_|refine Ei 208 ?_ ?_<;>intro hB<;>(try exact AR)<;>go_step|refine X5 212 ?_|refine AG ?_;go_step|fail)
     all_goals
      go_end0
      obtain ⟨j1,j2⟩:=Bg (show a≤mid by omega) (show mid≤b by omega) (show b≤Q.length by rw [hQn];exact hb) HX.out R2.out (Rg.refl _ _ _) R1.out hZ1
      exact ⟨rfl,R,j1,HQR.out.trans j2,hS⟩
   obtain ⟨Q,hQe,hQ⟩:∃Q,Q=P∧OB st m en P Q:=⟨P,rfl,OB.triv (by omega) (by omega) (by omega) (by omega)⟩
   rw [←hQe] at hS
   repeat' (first
    | refine Xq 177 ?_|refine X0 ?_|refine Fi ?_|refine Ei 180 ?_ ?_<;>intro hB<;>(try exact AR)<;>go_step|refine X5 184 ?_|refine AG ?_;go_step|fail)
   all_goals
    obtain ⟨s1,s2,s3,s4,hx⟩:=Gk HA1.out HA2.out ham hmb hmid (show en=mid+m-st by omega) (by omega) (by omega) (by omega) (by omega) (by omega) HLO2.out HHI2.out hQ
    have hQr:=hQ.rg (show st≤m by omega) (show m≤en by omega)
    have hQl:=hQr.len
    have HQR:=AD (hQr.wide (show a≤st by omega) (show en≤b by omega) (by omega) (by omega))
    have HX:=AD hx
    have S1:=AD s1
    have S2:=AD s2
    have S3:=AD s3
    have S4:=AD s4
    have g1:a≤st:=by omega
    have g2:st≤mid:=by omega
    have g3:mid≤en:=by omega
    have g4:en≤b:=by omega
    have g5:mid-a≤N:=by omega
    have g6:b-mid≤N:=by omega
    have g7:a<mid:=by omega
    have g8:mid<b:=by omega
    have hQn:Q.length=n:=by omega
    clear hx s1 s2 s3 s4 hQ hQr HLO2 HHI2 HA1 HA2 F5 HS0a HS0b HR0a HR0b hen hlt hk hst hr f5 f1 f2 f3 f4 hT hmid e1 e2 hc h1' h2' hN hrot hQl hPl hp ham hmb
    by_cases hl:a<st∧st<mid
    ·obtain ⟨hl1,hl2⟩:=hl
     have hb2:mid≤n:=by omega
     have HC:=AD (fun (w:World)(hS:St W w (Cb g n c Q::rs'))=>IH.out W w (Cb g n c Q::rs') rs' g n c a st mid Q g5 hS AT.head hl1 hl2 hb2 hn S1.out S2.out)
     repeat' (first
      | (refine As 139 ?_);refine At AA Tryz.call139 (HC.out _ hS) ?_;rintro e w ⟨rfl,R,hR1,hR2,hS2⟩;replace hS:=hS2;clear hS2;refine Ac ?_;go_step|refine X1 ?_|refine Fi ?_|refine Ei 194 ?_ ?_<;>intro hB<;>(try exact AR)<;>go_step|refine X5 198 ?_|refine AG ?_;go_step|fail)
     have S5:=AD (S3.out.same (Q:=R) fun x k1 k2=>hR2.out x (by omega))
     have S6:=AD (S4.out.same (Q:=R) fun x k1 k2=>hR2.out x (by omega))
     have R1:=AD hR1
     have R2:=AD hR2
     clear hR1 hR2
     by_cases hr:mid<en∧en<b
     ·obtain ⟨hr1,hr2⟩:=hr
      have HC:=AD (fun (w:World)(hS:St W w (Cb g n c R::rs'))=>IH.out W w (Cb g n c R::rs') rs' g n c mid en b R g6 hS AT.head hr1 hr2 hb hn S5.out S6.out)
      repeat' (first
       | (refine As 139 ?_);refine At AA Tryz.call139 (HC.out _ hS) ?_;rintro e w ⟨rfl,Z,hZ1,hZ2,hS2⟩;replace hS:=hS2;clear hS2;refine Ac ?_;go_step|refine X1 ?_|refine Fi ?_|refine Ei 208 ?_ ?_<;>intro hB<;>(try exact AR)<;>go_step|refine X5 212 ?_|refine AG ?_;go_step|fail)
      go_end0
      obtain ⟨j1,j2⟩:=Bg (show a≤mid by omega) (show mid≤b by omega) (show b≤Q.length by rw [hQn];exact hb) HX.out R2.out hZ2 R1.out hZ1
      exact ⟨rfl,Z,j1,HQR.out.trans j2,hS⟩
     have hZ1:D6 DY.w mid b R:=by
      by_cases c1:mid<en
      ·exact S5.out.sub (Nat.le_refl _) (by omega)
      exact S6.out.sub (by omega) (Nat.le_refl _)
     repeat' (first
      | go_skip|((with_reducible refine Io ?_);(first|go_big_want|go_step);go_step)|((with_reducible refine Ak _ (.pick _ _ _) ?_);first|(refine A6 rfl AA ?_;go_step)|(refine A3 rfl AA ?_;go_step))|((refine AQ 208 ?_);(refine CG _ (V.lss rfl rfl) AA (fun hB=>?_) (fun hB=>?_)<;>(try exact AR)<;>go_step))|((refine AQ 212 ?_);(refine An AA (V.lss rfl rfl) ?_;go_step))|(refine AG ?_;go_step)|fail)
     all_goals
      go_end0
      obtain ⟨j1,j2⟩:=Bg (show a≤mid by omega) (show mid≤b by omega) (show b≤Q.length by rw [hQn];exact hb) HX.out R2.out (Rg.refl _ _ _) R1.out hZ1
      exact ⟨rfl,R,j1,HQR.out.trans j2,hS⟩
    obtain ⟨R,hRe⟩:∃R,R=Q:=⟨Q,rfl⟩
    have hR2:Rg a mid Q R:=by rw [hRe];exact Rg.refl _ _ _
    have hR1:D6 DY.w a mid R:=by
     rw [hRe]
     by_cases c1:a<st
     ·exact S1.out.sub (Nat.le_refl _) (by omega)
     exact S2.out.sub (by omega) (Nat.le_refl _)
    rw [←hRe] at hS
    repeat' (first
     | go_skip|((with_reducible refine Io ?_);(first|go_big_want|go_step);go_step)|((with_reducible refine Ak _ (.pick _ _ _) ?_);first|(refine A6 rfl AA ?_;go_step)|(refine A3 rfl AA ?_;go_step))|((refine AQ 194 ?_);(refine CG _ (V.lss rfl rfl) AA (fun hB=>?_) (fun hB=>?_)<;>(try exact AR)<;>go_step))|((refine AQ 198 ?_);(refine An AA (V.lss rfl rfl) ?_;go_step))|(refine AG ?_;go_step)|fail)
    all_goals
     have S5:=AD (S3.out.same (Q:=R) fun x k1 k2=>hR2.out x (by omega))
     have S6:=AD (S4.out.same (Q:=R) fun x k1 k2=>hR2.out x (by omega))
     have R1:=AD hR1
     have R2:=AD hR2
     clear hR1 hR2
     by_cases hr:mid<en∧en<b
     ·obtain ⟨hr1,hr2⟩:=hr
      have HC:=AD (fun (w:World)(hS:St W w (Cb g n c R::rs'))=>IH.out W w (Cb g n c R::rs') rs' g n c mid en b R g6 hS AT.head hr1 hr2 hb hn S5.out S6.out)
      repeat' (first
       | (refine As 139 ?_);refine At AA Tryz.call139 (HC.out _ hS) ?_;rintro e w ⟨rfl,Z,hZ1,hZ2,hS2⟩;replace hS:=hS2;clear hS2;refine Ac ?_;go_step|refine X1 ?_|refine Fi ?_|refine Ei 208 ?_ ?_<;>intro hB<;>(try exact AR)<;>go_step|refine X5 212 ?_|refine AG ?_;go_step|fail)
      go_end0
      obtain ⟨j1,j2⟩:=Bg (show a≤mid by omega) (show mid≤b by omega) (show b≤Q.length by rw [hQn];exact hb) HX.out R2.out hZ2 R1.out hZ1
      exact ⟨rfl,Z,j1,HQR.out.trans j2,hS⟩
     have hZ1:D6 DY.w mid b R:=by
      by_cases c1:mid<en
      ·exact S5.out.sub (Nat.le_refl _) (by omega)
      exact S6.out.sub (by omega) (Nat.le_refl _)
     repeat' (first
      | go_skip|((with_reducible refine Io ?_);(first|go_big_want|go_step);go_step)|((with_reducible refine Ak _ (.pick _ _ _) ?_);first|(refine A6 rfl AA ?_;go_step)|(refine A3 rfl AA ?_;go_step))|((refine AQ 208 ?_);(refine CG _ (V.lss rfl rfl) AA (fun hB=>?_) (fun hB=>?_)<;>(try exact AR)<;>go_step))|((refine AQ 212 ?_);(refine An AA (V.lss rfl rfl) ?_;go_step))|(refine AG ?_;go_step)|fail)
     all_goals
      go_end0
      obtain ⟨j1,j2⟩:=Bg (show a≤mid by omega) (show mid≤b by omega) (show b≤Q.length by rw [hQn];exact hb) HX.out R2.out (Rg.refl _ _ _) R1.out hZ1
      exact ⟨rfl,R,j1,HQR.out.trans j2,hS⟩
 have e1:=HS0b.out hc
 have e2:=HR0b.out hc
 repeat' (first
  | (refine AQ 131 ?_);(refine Ag (.int _ (((a+b:Nat):Int))) (V.as (V.addI rfl rfl (by omega)) (by omega)) (by kernel_rfl) ?_;go_step)|(refine AQ 133 ?_);(refine Ag (.int _ (((mid:Nat):Int))) (V.as (V.shr rfl rfl A9 (by omega) rfl) (by omega)) (by kernel_rfl) ?_;go_step)|(refine AQ 137 ?_);(refine Ag (.int _ (((T:Nat):Int))) (V.as (V.addI rfl rfl (by omega)) (by omega)) (by kernel_rfl) ?_;go_step)|refine X0 ?_|refine S7 132 ?_|refine S0 134 ?_|refine KN 140 ?_|refine AG ?_;go_step|fail)
 repeat' (first
  | (refine AQ 148 ?_);(refine Ag (.int _ (((T-1:Nat):Int))) (V.as (V.subI rfl rfl (by omega)) (by omega)) (by kernel_rfl) ?_;go_step)|refine X8 ?_|refine AG ?_;go_step|fail)
 go_loopg [20,21] (r0-s0) (fun gk iv jv w=>∃(st r:Nat),gk+st=r∧s0≤st∧r≤r0∧iv= .int .i64 st∧jv= .int .i64 r∧(s0<st→wk P (st-1)≤wk P (T-st))∧(r<r0→wk P (T-1-r)≤wk P r)∧St W w (Cb g n c P::rs'))
 case atStart=>exact ⟨s0,r0,by omega,by omega,by omega,by first|rfl|rw [e1],by first|rfl|rw [e2],fun h=>by omega,fun h=>by omega,hS⟩
 case round=>
  clear hS
  obtain ⟨st,r,hk,hst,hr,rfl,rfl,hlo,hhi,hS⟩:=hrel
  have HLO:=AD hlo
  have HHI:=AD hhi
  clear hlo hhi
  have f5:=F5.out st hst (by omega)
  by_cases hlt:st<r
  ·obtain ⟨h,hh⟩:∃h,h=(st+r)/2:=⟨_,rfl⟩
   obtain ⟨y,hy⟩:∃y,y=T-1-h:=⟨_,rfl⟩
   have f6:=F5.out (h+1) (by omega) (by omega)
   obtain ⟨v,hv⟩:∃v,Ln (Am P y).w (Am P h).w=v:=⟨_,rfl⟩
   have hv2:=IC (Am P y).w (Am P h).w
   rw [hv] at hv2
   have HV:=AD hv
   have HV2:=AD hv2
   clear hv hv2
   repeat' (first
    | (refine AQ 154 ?_);(refine Ag (.int _ (((st+r:Nat):Int))) (V.as (V.addI rfl rfl (by omega)) (by omega)) (by kernel_rfl) ?_;go_step)|refine Xs 156 ?_|refine X0 ?_|refine X5 151 ?_|refine S7 155 ?_|refine S0 157 ?_|refine AG ?_;go_step|fail)
   refine AP [11] (fun w=>St W w (Cb g n c P::rs')) AA ?_
   replace hS:=hS.drew
   focus
    refine AZ 0 ?_
    refine AZ 1 ?_
    refine AZ 2 ?_
    refine AZ 3 ?_
    (refine BV 4 (.int _ (((y:Nat):Int))) Aj AA AA AA Be (V.as (V.subI rfl rfl (by omega)) (by omega)) AA ?_)
    go_step
    refine Y4 5 ?_
    refine Y6 6 [11,12,13] ?_
    refine AZ 7 ?_
    refine AZ 8 ?_
    refine Y4 9 ?_
    refine Y6 10 [11,12,13] ?_
    refine Av 11 ?_
    refine BJ (f:=104) rfl rfl Tryz.call104 (DI _ (Am P y) (Am P h)) ?_;rintro e w ⟨rfl,hE⟩;replace hS:=hS.ext hE;clear hE;rw [HV.out];refine ⟨_,rfl,?_⟩
    refine ⟨fun h=>absurd (by decide) h,?_⟩
    refine AI ?_
    go_step
    refine BZ 12 BN (V.lss rfl rfl) ?_;go_step
    refine BZ 13 BN (V.notD rfl) ?_;go_step
    refine AE AA ?_ _
   by_cases hc2:v<0
   ·repeat' (first
     | refine X0 ?_|refine AG ?_;go_step|fail)
    go_roundg (h-st)
    case measure=>omega
    case rel=>
     refine ⟨st,h,by omega,by omega,by omega,rfl,by go_num,HLO.out,fun k1=>?_,hS⟩
     have:=HV2.out.1 hc2
     rw [←hy]
     exact Int.le_of_lt this
   repeat' (first
    | refine Xr 173 ?_|refine X0 ?_|refine AG ?_;go_step|fail)
   go_roundg (r-(h+1))
   case measure=>omega
   case rel=>
    refine ⟨h+1,r,by omega,by omega,by omega,by go_num,rfl,fun k1=>?_,HHI.out,hS⟩
    have:=HV2.out
    rw [show T-(h+1)=y by omega,Nat.add_sub_cancel]
    show (Am P h).w≤(Am P y).w
    omega
  obtain rfl:st=r:=by omega
  obtain ⟨en,hen⟩:∃en,en=T-st:=⟨_,rfl⟩
  have HLO2:Hid (a<st→m≤en→en<b→wk P (st-1)≤wk P en):=fun k1 k2 k3=>by
   rw [hen];exact HLO.out (by omega)
  have HHI2:Hid (m<en→st<m→wk P (en-1)≤wk P st):=fun k1 k2=>by
   rw [show en-1=T-1-st by omega];exact HHI.out (by omega)
  clear HLO HHI
  repeat' (first
   | refine X1 ?_|refine X5 151 ?_|refine AG ?_;go_step|fail)
  by_cases hrot:st<m∧m<en
  ·have hrot1:=hrot.1
   have hrot2:=hrot.2
   repeat' (first
    | refine Xq 177 ?_|(refine As 145 ?_);refine At AA Tryz.call145 (K4 W _ _ rs' g n c st m en P hS AT.head hrot1 hrot2 (by omega) hn dJ) ?_;rintro e w ⟨rfl,Q,hQ,hS2⟩;replace hS:=hS2;clear hS2;refine Ac ?_;go_step|refine X0 ?_|refine Fi ?_|refine Ei 180 ?_ ?_<;>intro hB<;>(try exact AR)<;>go_step|refine X5 184 ?_|refine AG ?_;go_step|fail)
   obtain ⟨s1,s2,s3,s4,hx⟩:=Gk HA1.out HA2.out ham hmb hmid (show en=mid+m-st by omega) (by omega) (by omega) (by omega) (by omega) (by omega) HLO2.out HHI2.out hQ
   have hQr:=hQ.rg (show st≤m by omega) (show m≤en by omega)
   have hQl:=hQr.len
   have HQR:=AD (hQr.wide (show a≤st by omega) (show en≤b by omega) (by omega) (by omega))
   have HX:=AD hx
   have S1:=AD s1
   have S2:=AD s2
   have S3:=AD s3
   have S4:=AD s4
   have g1:a≤st:=by omega
   have g2:st≤mid:=by omega
   have g3:mid≤en:=by omega
   have g4:en≤b:=by omega
   have g5:mid-a≤N:=by omega
   have g6:b-mid≤N:=by omega
   have g7:a<mid:=by omega
   have g8:mid<b:=by omega
   have hQn:Q.length=n:=by omega
   clear hx s1 s2 s3 s4 hQ hQr HLO2 HHI2 HA1 HA2 F5 HS0a HS0b HR0a HR0b hen hlt hk hst hr f5 f1 f2 f3 f4 hT hmid e1 e2 hc h1' h2' hN hrot hQl hPl hp ham hmb
   by_cases hl:a<st∧st<mid
   ·obtain ⟨hl1,hl2⟩:=hl
    have hb2:mid≤n:=by omega
    have HC:=AD (fun (w:World)(hS:St W w (Cb g n c Q::rs'))=>IH.out W w (Cb g n c Q::rs') rs' g n c a st mid Q g5 hS AT.head hl1 hl2 hb2 hn S1.out S2.out)
    repeat' (first
     | (refine As 139 ?_);refine At AA Tryz.call139 (HC.out _ hS) ?_;rintro e w ⟨rfl,R,hR1,hR2,hS2⟩;replace hS:=hS2;clear hS2;refine Ac ?_;go_step|refine X1 ?_|refine Fi ?_|refine Ei 194 ?_ ?_<;>intro hB<;>(try exact AR)<;>go_step|refine X5 198 ?_|refine AG ?_;go_step|fail)
    have S5:=AD (S3.out.same (Q:=R) fun x k1 k2=>hR2.out x (by omega))
    have S6:=AD (S4.out.same (Q:=R) fun x k1 k2=>hR2.out x (by omega))
    have R1:=AD hR1
    have R2:=AD hR2
    clear hR1 hR2
    by_cases hr:mid<en∧en<b
    ·obtain ⟨hr1,hr2⟩:=hr
     have HC:=AD (fun (w:World)(hS:St W w (Cb g n c R::rs'))=>IH.out W w (Cb g n c R::rs') rs' g n c mid en b R g6 hS AT.head hr1 hr2 hb hn S5.out S6.out)
     repeat' (first
      | (refine As 139 ?_);refine At AA Tryz.call139 (HC.out _ hS) ?_;rintro e w ⟨rfl,Z,hZ1,hZ2,hS2⟩;replace hS:=hS2;clear hS2;refine Ac ?_;go_step|refine X1 ?_|refine Fi ?_|refine Ei 208 ?_ ?_<;>intro hB<;>(try exact AR)<;>go_step|refine X5 212 ?_|refine AG ?_;go_step|fail)
     go_end0
     obtain ⟨j1,j2⟩:=Bg (show a≤mid by omega) (show mid≤b by omega) (show b≤Q.length by rw [hQn];exact hb) HX.out R2.out hZ2 R1.out hZ1
     exact ⟨rfl,Z,j1,HQR.out.trans j2,hS⟩
    have hZ1:D6 DY.w mid b R:=by
     by_cases c1:mid<en
     ·exact S5.out.sub (Nat.le_refl _) (by omega)
     exact S6.out.sub (by omega) (Nat.le_refl _)
    repeat' (first
     | go_skip|((with_reducible refine Io ?_);(first|go_big_want|go_step);go_step)|((with_reducible refine Ak _ (.pick _ _ _) ?_);first|(refine A6 rfl AA ?_;go_step)|(refine A3 rfl AA ?_;go_step))|((refine AQ 208 ?_);(refine CG _ (V.lss rfl rfl) AA (fun hB=>?_) (fun hB=>?_)<;>(try exact AR)<;>go_step))|((refine AQ 212 ?_);(refine An AA (V.lss rfl rfl) ?_;go_step))|(refine AG ?_;go_step)|fail)
    all_goals
     go_end0
     obtain ⟨j1,j2⟩:=Bg (show a≤mid by omega) (show mid≤b by omega) (show b≤Q.length by rw [hQn];exact hb) HX.out R2.out (Rg.refl _ _ _) R1.out hZ1
     exact ⟨rfl,R,j1,HQR.out.trans j2,hS⟩
   obtain ⟨R,hRe⟩:∃R,R=Q:=⟨Q,rfl⟩
   have hR2:Rg a mid Q R:=by rw [hRe];exact Rg.refl _ _ _
   have hR1:D6 DY.w a mid R:=by
    rw [hRe]
    by_cases c1:a<st
    ·exact S1.out.sub (Nat.le_refl _) (by omega)
    exact S2.out.sub (by omega) (Nat.le_refl _)
   rw [←hRe] at hS
   repeat' (first
    | go_skip|((with_reducible refine Io ?_);(first|go_big_want|go_step);go_step)|((with_reducible refine Ak _ (.pick _ _ _) ?_);(refine A3 rfl AA ?_;go_step))|((refine AQ 194 ?_);(refine CG _ (V.lss rfl rfl) AA (fun hB=>?_) (fun hB=>?_)<;>(try exact AR)<;>go_step))|(refine AG ?_;go_step)|fail)
   all_goals
    have S5:=AD (S3.out.same (Q:=R) fun x k1 k2=>hR2.out x (by omega))
    have S6:=AD (S4.out.same (Q:=R) fun x k1 k2=>hR2.out x (by omega))
    have R1:=AD hR1
    have R2:=AD hR2
    clear hR1 hR2
    by_cases hr:mid<en∧en<b
    ·obtain ⟨hr1,hr2⟩:=hr
     have HC:=AD (fun (w:World)(hS:St W w (Cb g n c R::rs'))=>IH.out W w (Cb g n c R::rs') rs' g n c mid en b R g6 hS AT.head hr1 hr2 hb hn S5.out S6.out)
     repeat' (first
      | (refine As 139 ?_);refine At AA Tryz.call139 (HC.out _ hS) ?_;rintro e w ⟨rfl,Z,hZ1,hZ2,hS2⟩;replace hS:=hS2;clear hS2;refine Ac ?_;go_step|refine X1 ?_|refine Fi ?_|refine Ei 208 ?_ ?_<;>intro hB<;>(try exact AR)<;>go_step|refine X5 212 ?_|refine AG ?_;go_step|fail)
     go_end0
     obtain ⟨j1,j2⟩:=Bg (show a≤mid by omega) (show mid≤b by omega) (show b≤Q.length by rw [hQn];exact hb) HX.out R2.out hZ2 R1.out hZ1
     exact ⟨rfl,Z,j1,HQR.out.trans j2,hS⟩
    have hZ1:D6 DY.w mid b R:=by
     by_cases c1:mid<en
     ·exact S5.out.sub (Nat.le_refl _) (by omega)
     exact S6.out.sub (by omega) (Nat.le_refl _)
    repeat' (first
     | go_skip|((with_reducible refine Io ?_);(first|go_big_want|go_step);go_step)|((with_reducible refine Ak _ (.pick _ _ _) ?_);first|(refine A6 rfl AA ?_;go_step)|(refine A3 rfl AA ?_;go_step))|((refine AQ 208 ?_);(refine CG _ (V.lss rfl rfl) AA (fun hB=>?_) (fun hB=>?_)<;>(try exact AR)<;>go_step))|((refine AQ 212 ?_);(refine An AA (V.lss rfl rfl) ?_;go_step))|(refine AG ?_;go_step)|fail)
    all_goals
     go_end0
     obtain ⟨j1,j2⟩:=Bg (show a≤mid by omega) (show mid≤b by omega) (show b≤Q.length by rw [hQn];exact hb) HX.out R2.out (Rg.refl _ _ _) R1.out hZ1
     exact ⟨rfl,R,j1,HQR.out.trans j2,hS⟩
  obtain ⟨Q,hQe,hQ⟩:∃Q,Q=P∧OB st m en P Q:=⟨P,rfl,OB.triv (by omega) (by omega) (by omega) (by omega)⟩
  rw [←hQe] at hS
  repeat' (first
   | refine Xq 177 ?_|go_skip|refine X0 ?_|refine H7 ?_|refine Ei 180 ?_ ?_<;>intro hB<;>(try exact AR)<;>go_step|refine AG ?_;go_step|fail)
  all_goals
   obtain ⟨s1,s2,s3,s4,hx⟩:=Gk HA1.out HA2.out ham hmb hmid (show en=mid+m-st by omega) (by omega) (by omega) (by omega) (by omega) (by omega) HLO2.out HHI2.out hQ
   have hQr:=hQ.rg (show st≤m by omega) (show m≤en by omega)
   have hQl:=hQr.len
   have HQR:=AD (hQr.wide (show a≤st by omega) (show en≤b by omega) (by omega) (by omega))
   have HX:=AD hx
   have S1:=AD s1
   have S2:=AD s2
   have S3:=AD s3
   have S4:=AD s4
   have g1:a≤st:=by omega
   have g2:st≤mid:=by omega
   have g3:mid≤en:=by omega
   have g4:en≤b:=by omega
   have g5:mid-a≤N:=by omega
   have g6:b-mid≤N:=by omega
   have g7:a<mid:=by omega
   have g8:mid<b:=by omega
   have hQn:Q.length=n:=by omega
   clear hx s1 s2 s3 s4 hQ hQr HLO2 HHI2 HA1 HA2 F5 HS0a HS0b HR0a HR0b hen hlt hk hst hr f5 f1 f2 f3 f4 hT hmid e1 e2 hc h1' h2' hN hrot hQl hPl hp ham hmb
   by_cases hl:a<st∧st<mid
   ·obtain ⟨hl1,hl2⟩:=hl
    have hb2:mid≤n:=by omega
    have HC:=AD (fun (w:World)(hS:St W w (Cb g n c Q::rs'))=>IH.out W w (Cb g n c Q::rs') rs' g n c a st mid Q g5 hS AT.head hl1 hl2 hb2 hn S1.out S2.out)
    repeat' (first
     | (refine As 139 ?_);refine At AA Tryz.call139 (HC.out _ hS) ?_;rintro e w ⟨rfl,R,hR1,hR2,hS2⟩;replace hS:=hS2;clear hS2;refine Ac ?_;go_step|refine X1 ?_|refine Fi ?_|refine Ei 194 ?_ ?_<;>intro hB<;>(try exact AR)<;>go_step|refine X5 198 ?_|refine AG ?_;go_step|fail)
    have S5:=AD (S3.out.same (Q:=R) fun x k1 k2=>hR2.out x (by omega))
    have S6:=AD (S4.out.same (Q:=R) fun x k1 k2=>hR2.out x (by omega))
    have R1:=AD hR1
    have R2:=AD hR2
    clear hR1 hR2
    by_cases hr:mid<en∧en<b
    ·obtain ⟨hr1,hr2⟩:=hr
     have HC:=AD (fun (w:World)(hS:St W w (Cb g n c R::rs'))=>IH.out W w (Cb g n c R::rs') rs' g n c mid en b R g6 hS AT.head hr1 hr2 hb hn S5.out S6.out)
     repeat' (first
      | (refine As 139 ?_);refine At AA Tryz.call139 (HC.out _ hS) ?_;rintro e w ⟨rfl,Z,hZ1,hZ2,hS2⟩;replace hS:=hS2;clear hS2;refine Ac ?_;go_step|refine X1 ?_|refine Fi ?_|refine Ei 208 ?_ ?_<;>intro hB<;>(try exact AR)<;>go_step|refine X5 212 ?_|refine AG ?_;go_step|fail)
     go_end0
     obtain ⟨j1,j2⟩:=Bg (show a≤mid by omega) (show mid≤b by omega) (show b≤Q.length by rw [hQn];exact hb) HX.out R2.out hZ2 R1.out hZ1
     exact ⟨rfl,Z,j1,HQR.out.trans j2,hS⟩
    have hZ1:D6 DY.w mid b R:=by
     by_cases c1:mid<en
     ·exact S5.out.sub (Nat.le_refl _) (by omega)
     exact S6.out.sub (by omega) (Nat.le_refl _)
    repeat' (first
     | go_skip|((with_reducible refine Io ?_);(first|go_big_want|go_step);go_step)|((with_reducible refine Ak _ (.pick _ _ _) ?_);first|(refine A6 rfl AA ?_;go_step)|(refine A3 rfl AA ?_;go_step))|((refine AQ 208 ?_);(refine CG _ (V.lss rfl rfl) AA (fun hB=>?_) (fun hB=>?_)<;>(try exact AR)<;>go_step))|((refine AQ 212 ?_);(refine An AA (V.lss rfl rfl) ?_;go_step))|(refine AG ?_;go_step)|fail)
    all_goals
     go_end0
     obtain ⟨j1,j2⟩:=Bg (show a≤mid by omega) (show mid≤b by omega) (show b≤Q.length by rw [hQn];exact hb) HX.out R2.out (Rg.refl _ _ _) R1.out hZ1
     exact ⟨rfl,R,j1,HQR.out.trans j2,hS⟩
   obtain ⟨R,hRe⟩:∃R,R=Q:=⟨Q,rfl⟩
   have hR2:Rg a mid Q R:=by rw [hRe];exact Rg.refl _ _ _
   have hR1:D6 DY.w a mid R:=by
    rw [hRe]
    by_cases c1:a<st
    ·exact S1.out.sub (Nat.le_refl _) (by omega)
    exact S2.out.sub (by omega) (Nat.le_refl _)
   rw [←hRe] at hS
   repeat' (first
    | go_skip|((with_reducible refine Io ?_);(first|go_big_want|go_step);go_step)|((with_reducible refine Ak _ (.pick _ _ _) ?_);first|(refine A6 rfl AA ?_;go_step)|(refine A3 rfl AA ?_;go_step))|((refine AQ 194 ?_);(refine CG _ (V.lss rfl rfl) AA (fun hB=>?_) (fun hB=>?_)<;>(try exact AR)<;>go_step))|((refine AQ 198 ?_);(refine An AA (V.lss rfl rfl) ?_;go_step))|(refine AG ?_;go_step)|fail)
   all_goals
    have S5:=AD (S3.out.same (Q:=R) fun x k1 k2=>hR2.out x (by omega))
    have S6:=AD (S4.out.same (Q:=R) fun x k1 k2=>hR2.out x (by omega))
    have R1:=AD hR1
    have R2:=AD hR2
    clear hR1 hR2
    by_cases hr:mid<en∧en<b
    ·obtain ⟨hr1,hr2⟩:=hr
     have HC:=AD (fun (w:World)(hS:St W w (Cb g n c R::rs'))=>IH.out W w (Cb g n c R::rs') rs' g n c mid en b R g6 hS AT.head hr1 hr2 hb hn S5.out S6.out)
     repeat' (first
      | (refine As 139 ?_);refine At AA Tryz.call139 (HC.out _ hS) ?_;rintro e w ⟨rfl,Z,hZ1,hZ2,hS2⟩;replace hS:=hS2;clear hS2;refine Ac ?_;go_step|refine X1 ?_|refine Fi ?_|refine Ei 208 ?_ ?_<;>intro hB<;>(try exact AR)<;>go_step|refine X5 212 ?_|refine AG ?_;go_step|fail)
     go_end0
     obtain ⟨j1,j2⟩:=Bg (show a≤mid by omega) (show mid≤b by omega) (show b≤Q.length by rw [hQn];exact hb) HX.out R2.out hZ2 R1.out hZ1
     exact ⟨rfl,Z,j1,HQR.out.trans j2,hS⟩
    have hZ1:D6 DY.w mid b R:=by
     by_cases c1:mid<en
     ·exact S5.out.sub (Nat.le_refl _) (by omega)
     exact S6.out.sub (by omega) (Nat.le_refl _)
    repeat' (first
     | go_skip|((with_reducible refine Io ?_);(first|go_big_want|go_step);go_step)|((with_reducible refine Ak _ (.pick _ _ _) ?_);first|(refine A6 rfl AA ?_;go_step)|(refine A3 rfl AA ?_;go_step))|((refine AQ 208 ?_);(refine CG _ (V.lss rfl rfl) AA (fun hB=>?_) (fun hB=>?_)<;>(try exact AR)<;>go_step))|((refine AQ 212 ?_);(refine An AA (V.lss rfl rfl) ?_;go_step))|(refine AG ?_;go_step)|fail)
    all_goals
     go_end0
     obtain ⟨j1,j2⟩:=Bg (show a≤mid by omega) (show mid≤b by omega) (show b≤Q.length by rw [hQn];exact hb) HX.out R2.out (Rg.refl _ _ _) R1.out hZ1
     exact ⟨rfl,R,j1,HQR.out.trans j2,hS⟩
end Go.Proofs.YtohacgmhmbijmaaGreatDoor
