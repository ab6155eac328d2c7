/- What the laws OwnMemory need, part 6. -/
import Derived.Test.YtkcbhcajfcfmmaaDoorBaseOZ2
import Derived.Test.YtkcbhcajfcfmmaaDoorBaseOZ5
namespace Go.Proofs.YtkcbhcajfcfmmaaDoor
attribute [local irreducible] Region.wanted
open Go.RowKit
set_option linter.unusedVariables false
set_option maxRecDepth 100000
set_option maxHeartbeats 8000000
theorem Dm(N:Nat):∀(W w0:World)(rs rs':List Ac)(g n c a m b:Nat)(P:List Bg),b-a≤N→St W w0 rs→AI (BF g n c P) rs rs'→a<m→m<b→b≤n→n≤1000000→Bp Bg.w a m P→Bp Bg.w m b P→
 Calls Tryd.prog 48 #[.slice (some ⟨g,0,none⟩) n c, .int .i64 a, .int .i64 m, .int .i64 b,M7] w0 fun e w=>e= .returned (.tuple #[])∧∃Q,Bp Bg.w a b Q∧Rg a b P Q∧St W w (BF g n c Q::rs'):=by
 induction N with
 | zero=>intro W w0 rs rs' g n c a m b P hN;omega
 | succ N ih=>
 intro W w0 rs rs' g n c a m b P hN hS hp ham hmb hb hn hA1 hA2
 replace hS:=hS.pull hp
 have he:=BP
 have h1e:=GM
 have hPl:=B7 hS AI.head BP (by decide)
 have IH:=AD ih
 have HA1:=AD hA1
 have HA2:=AD hA2
 clear ih hA1 hA2
 by_cases h1:m-a=1
 ·obtain rfl:m=a+1:=by omega
  go_enter Tryd.func48,Tryd.ntmps48
  repeat' (first
   | (refine AU 27 ?_);(refine AP (.int _ (1)) (V.as (V.subI rfl rfl (by omega)) (by omega)) (by kernel_rfl) ?_;go_step)|refine X0 ?_|refine JF 28 ?_|refine AG ?_;go_step|fail)
  go_loopg [10,11] (b-(a+1)) (fun gk iv jv w=>∃(i j:Nat),gk+i=j∧a+1≤i∧j≤b∧iv= .int .i64 i∧jv= .int .i64 j∧(∀x,a+1≤x→x<i→wk P x≤wk P a)∧(∀x,j≤x→x<b→wk P a≤wk P x)∧St W w (BF g n c P::rs'))
  case atStart=>exact ⟨a+1,b,by omega,by omega,by omega,rfl,rfl,fun x h1 h2=>by omega,fun x h1 h2=>by omega,hS⟩
  case round=>
   clear hS
   obtain ⟨i,j,hk,hi,hj,rfl,rfl,hlo,hhi,hS⟩:=hrel
   have HLO:=AD hlo
   have HHI:=AD hhi
   clear hlo hhi
   by_cases hlt:i<j
   ·obtain ⟨h,hh⟩:∃h,h=(i+j)/2:=⟨_,rfl⟩
    obtain ⟨v,hv⟩:∃v,FQ (AL P h).w (AL P a).w=v:=⟨_,rfl⟩
    have hv2:=DZ (AL P h).w (AL P a).w
    rw [hv] at hv2
    have HV:=AD hv
    have HV2:=AD hv2
    clear hv hv2
    repeat' (first
     | (refine AU 36 ?_);(refine AP (.int _ (((i+j:Nat):Int))) (V.as (V.addI rfl rfl (by omega)) (by omega)) (by kernel_rfl) ?_;go_step)|refine N6 38 ?_|refine X0 ?_|refine X2 33 ?_|refine My 37 ?_|refine Mz 39 ?_|refine AG ?_;go_step|fail)
    refine AZ [9] (fun w=>St W w (BF g n c P::rs')) AB ?_
    replace hS:=hS.drew
    focus
     refine Ai 0 ?_
     refine Ai 1 ?_
     refine Ai 2 ?_
     refine Y0 3 ?_
     refine Y1 4 [9,10] ?_
     refine Ai 5 ?_
     refine Ai 6 ?_
     refine Y0 7 ?_
     refine Y1 8 [9,10] ?_
     refine Cb 9 ?_
     refine Cp (f:=27) rfl rfl Tryd.call27 (Bb _ (AL P h) (AL P a)) ?_;rintro e w ⟨rfl,hE⟩;replace hS:=hS.ext hE;clear hE;rw [HV.out];refine ⟨_,rfl,?_⟩
     refine ⟨fun h=>absurd (by decide) h,?_⟩
     refine AK ?_
     go_step
     refine Dw 10 DG (V.lss rfl rfl) ?_;go_step
     refine AO AB ?_ _
    by_cases hc:v<0
    ·repeat' (first
      | refine N5 52 ?_|refine X0 ?_|refine AG ?_;go_step|fail)
     go_roundg (j-(h+1))
     case measure=>omega
     case rel=>
      refine ⟨h+1,j,by omega,by omega,by omega,by go_num,rfl,fun x k1 k2=>?_,HHI.out,hS⟩
      have:=HA2.out x h k1 (by omega) (by omega)
      have:=HV2.out.1 hc
      show (AL P x).w≤(AL P a).w
      omega
    repeat' (first
     | refine X0 ?_|refine AG ?_;go_step|fail)
    go_roundg (h-i)
    case measure=>omega
    case rel=>
     refine ⟨i,h,by omega,by omega,by omega,rfl,by go_num,HLO.out,fun x k1 k2=>?_,hS⟩
     have:=HA2.out h x (by omega) k1 (by omega)
     have:=HV2.out
     show (AL P a).w≤(AL P x).w
     omega
   obtain rfl:i=j:=by omega
   obtain ⟨p,rfl⟩:∃p,i=p+1:=⟨i-1,by omega⟩
   repeat' (first
    | refine X0 ?_|refine X2 33 ?_|refine AG ?_;go_step|fail)
   repeat' (first
    | refine AG ?_;go_step|fail)
   go_loopg [13] (p-a) (fun gk kv w=>∃(k:Nat) (Q:List Bg),gk+k=p∧a≤k∧kv= .int .i64 k∧LJ a k P Q∧Rg a b P Q∧St W w (BF g n c Q::rs'))
   case atStart=>exact ⟨a,P,by omega,by omega,rfl,LJ.refl a P,Rg.refl a b P,hS⟩
   case round=>
    clear hS
    obtain ⟨k,Q,hk2,hak,rfl,hU,hR,hS⟩:=hrel
    have HU:=AD hU
    have HR:=AD hR
    clear hU hR
    by_cases hlt2:k<p
    ·repeat' (first
      | (refine AU 57 ?_);(refine AP (.int _ (((p:Nat):Int))) (V.as (V.subI rfl rfl (by omega)) (by omega)) (by kernel_rfl) ?_;go_step)|refine X1 ?_|refine X2 58 ?_|refine AG ?_;go_step|fail)
     refine AZ [15,17] (fun w=>St W w (BF g n c Q::rs')) AB ?_
     replace hS:=hS.drew
     focus
      refine Ai 0 ?_
      refine Ai 1 ?_
      refine Ai 2 ?_
      refine Ai 3 ?_
      (refine BJ 4 (.int _ (((k+1:Nat):Int))) Cf AB AB AB Cv (V.as (V.addI rfl rfl (by omega)) (by omega)) AB ?_)
      go_step
      refine Ai 5 ?_
      refine Ai 6 ?_
      (refine BJ 7 (.int _ (((k+1:Nat):Int))) Cf AB AB AB Cv (V.as (V.addI rfl rfl (by omega)) (by omega)) AB ?_)
      go_step
      refine Y0 8 ?_
      refine Y1 9 [14,15,16,17] ?_
      refine Ai 10 ?_
      refine Ai 11 ?_
      refine Y0 12 ?_
      refine Y1 13 [14,15,16,17] ?_
      refine Y0 14 ?_
      refine Cb 15 ?_
      refine Y2 ?_;clear hS;intro w hS
      refine Y0 16 ?_
      refine Cb 17 ?_
      refine Y2 ?_;clear hS;intro w hS
      refine AO AB ?_ _
     repeat' (first
      | refine N7 60 ?_|refine X0 ?_|refine AG ?_;go_step|fail)
     go_roundg (gk-1)
     case measure=>omega
     case rel=>exact ⟨k+1,H1 Q k (k+1),by omega,by omega,by go_num,HU.out.step (by omega) (by omega),HR.out.trans (GX _ _ _ _ _ (by omega) (by omega) (by omega) (by omega) (by rw [HR.out.len];omega)),hS⟩
    obtain rfl:k=p:=by omega
    repeat' (first
     | (refine AU 57 ?_);(refine AP (.int _ (((k:Nat):Int))) (V.as (V.subI rfl rfl (by omega)) (by omega)) (by kernel_rfl) ?_;go_step)|refine X1 ?_|refine X2 58 ?_|refine AG ?_;go_step|fail)
    refine bodyPost_ret (results_none rfl _ _ _) rfl ?_
    refine ⟨rfl,Q,HU.out.asc HA2.out hak (by omega) (fun h=>HLO.out k (by omega) (by omega)) (fun h=>HHI.out (k+1) (Nat.le_refl _) h),HR.out,hS⟩
 by_cases h2:b-m=1
 ·obtain rfl:b=m+1:=by omega
  go_enter Tryd.func48,Tryd.ntmps48
  repeat' (first
   | (refine AU 27 ?_);(refine AP (.int _ (((m-a:Nat):Int))) (V.as (V.subI rfl rfl (by omega)) (by omega)) (by kernel_rfl) ?_;go_step)|refine X1 ?_|refine JF 28 ?_|refine AG ?_;go_step|fail)
  repeat' (first
   | (refine AU 79 ?_);(refine AP (.int _ (1)) (V.as (V.subI rfl rfl (by omega)) (by omega)) (by kernel_rfl) ?_;go_step)|refine X0 ?_|refine JF 80 ?_|refine AG ?_;go_step|fail)
  go_loopg [14,15] (m-a) (fun gk iv jv w=>∃(i j:Nat),gk+i=j∧a≤i∧j≤m∧iv= .int .i64 i∧jv= .int .i64 j∧(∀x,a≤x→x<i→wk P x≤wk P m)∧(∀x,j≤x→x<m→wk P m≤wk P x)∧St W w (BF g n c P::rs'))
  case atStart=>exact ⟨a,m,by omega,by omega,by omega,rfl,rfl,fun x h1 h2=>by omega,fun x h1 h2=>by omega,hS⟩
  case round=>
   clear hS
   obtain ⟨i,j,hk,hi,hj,rfl,rfl,hlo,hhi,hS⟩:=hrel
   have HLO:=AD hlo
   have HHI:=AD hhi
   clear hlo hhi
   by_cases hlt:i<j
   ·obtain ⟨h,hh⟩:∃h,h=(i+j)/2:=⟨_,rfl⟩
    obtain ⟨v,hv⟩:∃v,FQ (AL P m).w (AL P h).w=v:=⟨_,rfl⟩
    have hv2:=DZ (AL P m).w (AL P h).w
    rw [hv] at hv2
    have HV:=AD hv
    have HV2:=AD hv2
    clear hv hv2
    repeat' (first
     | (refine AU 88 ?_);(refine AP (.int _ (((i+j:Nat):Int))) (V.as (V.addI rfl rfl (by omega)) (by omega)) (by kernel_rfl) ?_;go_step)|refine N6 90 ?_|refine X0 ?_|refine X2 85 ?_|refine My 89 ?_|refine Mz 91 ?_|refine AG ?_;go_step|fail)
    refine AZ [9] (fun w=>St W w (BF g n c P::rs')) AB ?_
    replace hS:=hS.drew
    focus
     refine Ai 0 ?_
     refine Ai 1 ?_
     refine Ai 2 ?_
     refine Y0 3 ?_
     refine Y1 4 [9,10,11] ?_
     refine Ai 5 ?_
     refine Ai 6 ?_
     refine Y0 7 ?_
     refine Y1 8 [9,10,11] ?_
     refine Cb 9 ?_
     refine Cp (f:=27) rfl rfl Tryd.call27 (Bb _ (AL P m) (AL P h)) ?_;rintro e w ⟨rfl,hE⟩;replace hS:=hS.ext hE;clear hE;rw [HV.out];refine ⟨_,rfl,?_⟩
     refine ⟨fun h=>absurd (by decide) h,?_⟩
     refine AK ?_
     go_step
     refine Dw 10 DG (V.lss rfl rfl) ?_;go_step
     refine Dw 11 DG (V.notD rfl) ?_;go_step
     refine AO AB ?_ _
    by_cases hc:v<0
    ·repeat' (first
      | refine X0 ?_|refine AG ?_;go_step|fail)
     go_roundg (h-i)
     case measure=>omega
     case rel=>
      refine ⟨i,h,by omega,by omega,by omega,rfl,by go_num,HLO.out,fun x k1 k2=>?_,hS⟩
      have:=HA1.out h x (by omega) k1 (by omega)
      have:=HV2.out.1 hc
      show (AL P m).w≤(AL P x).w
      omega
    repeat' (first
     | refine N5 105 ?_|refine X0 ?_|refine AG ?_;go_step|fail)
    go_roundg (j-(h+1))
    case measure=>omega
    case rel=>
     refine ⟨h+1,j,by omega,by omega,by omega,by go_num,rfl,fun x k1 k2=>?_,HHI.out,hS⟩
     have:=HA1.out x h k1 (by omega) (by omega)
     have:=HV2.out
     show (AL P x).w≤(AL P m).w
     omega
   obtain rfl:i=j:=by omega
   repeat' (first
    | refine X0 ?_|refine X2 85 ?_|refine AG ?_;go_step|fail)
   repeat' (first
    | refine AG ?_;go_step|fail)
   go_loopg [17] (m-i) (fun gk kv w=>∃(k:Nat) (Q:List Bg),gk+i=k∧k≤m∧kv= .int .i64 k∧Dn m k P Q∧Rg a (m+1) P Q∧St W w (BF g n c Q::rs'))
   case atStart=>exact ⟨m,P,by omega,by omega,rfl,Dn.refl m P,Rg.refl a _ P,hS⟩
   case round=>
    clear hS
    obtain ⟨k,Q,hk2,hkm,rfl,hU,hR,hS⟩:=hrel
    have HU:=AD hU
    have HR:=AD hR
    clear hU hR
    by_cases hlt2:i<k
    ·obtain ⟨q,rfl⟩:∃q,k=q+1:=⟨k-1,by omega⟩
     repeat' (first
      | refine X1 ?_|refine Gf 110 ?_|refine AG ?_;go_step|fail)
     refine AZ [15,17] (fun w=>St W w (BF g n c Q::rs')) AB ?_
     replace hS:=hS.drew
     focus
      refine Ai 0 ?_
      refine Ai 1 ?_
      refine Ai 2 ?_
      refine Ai 3 ?_
      (refine BJ 4 (.int _ (((q:Nat):Int))) Cf AB AB AB Cv (V.as (V.subI rfl rfl (by omega)) (by omega)) AB ?_)
      go_step
      refine Ai 5 ?_
      refine Ai 6 ?_
      (refine BJ 7 (.int _ (((q:Nat):Int))) Cf AB AB AB Cv (V.as (V.subI rfl rfl (by omega)) (by omega)) AB ?_)
      go_step
      refine Y0 8 ?_
      refine Y1 9 [14,15,16,17] ?_
      refine Ai 10 ?_
      refine Ai 11 ?_
      refine Y0 12 ?_
      refine Y1 13 [14,15,16,17] ?_
      refine Y0 14 ?_
      refine Cb 15 ?_
      refine Y2 ?_;clear hS;intro w hS
      refine Y0 16 ?_
      refine Cb 17 ?_
      refine Y2 ?_;clear hS;intro w hS
      refine AO AB ?_ _
     repeat' (first
      | (refine AU 112 ?_);(refine AP (.int _ (((q:Nat):Int))) (V.as (V.subI rfl rfl (by omega)) (by omega)) (by kernel_rfl) ?_;go_step)|refine X0 ?_|refine AG ?_;go_step|fail)
     go_roundg (gk-1)
     case measure=>omega
     case rel=>exact ⟨q,H1 Q (q+1) q,by omega,by omega,by go_num,HU.out.step (by omega) (by omega) (by omega),HR.out.trans (GX _ _ _ _ _ (by omega) (by omega) (by omega) (by omega) (by rw [HR.out.len];omega)),hS⟩
    obtain rfl:k=i:=by omega
    repeat' (first
     | refine X1 ?_|refine Gf 110 ?_|refine AG ?_;go_step|fail)
    refine bodyPost_ret (results_none rfl _ _ _) rfl ?_
    refine ⟨rfl,Q,HU.out.asc HA1.out hi (by omega) (fun h=>HLO.out (k-1) (by omega) (by omega)) (fun h=>HHI.out k (Nat.le_refl _) h),HR.out,hS⟩
 obtain ⟨mid,hmid⟩:∃mid,mid=(a+b)/2:=⟨_,rfl⟩
 obtain ⟨T,hT⟩:∃T,T=mid+m:=⟨_,rfl⟩
 obtain ⟨s0,hs0⟩:∃s0,s0=if mid<m then T-b else a:=⟨_,rfl⟩
 obtain ⟨r0,hr0⟩:∃r0,r0=if mid<m then mid else m:=⟨_,rfl⟩
 have hs0a:mid<m→s0=T-b:=fun h=>by rw [hs0,if_pos h]
 have hs0b:¬mid<m→s0=a:=fun h=>by rw [hs0,if_neg h]
 have hr0a:mid<m→r0=mid:=fun h=>by rw [hr0,if_pos h]
 have hr0b:¬mid<m→r0=m:=fun h=>by rw [hr0,if_neg h]
 clear hs0 hr0
 have hF:s0≤r0∧a≤s0∧r0≤mid∧r0≤m∧(∀st,s0≤st→st≤r0→m≤T-st∧T-st≤b∧st≤T):=by
  by_cases hc:mid<m
  ·have:=hs0a hc;have:=hr0a hc
   exact ⟨by omega,by omega,by omega,by omega,fun st k1 k2=>by omega⟩
  have:=hs0b hc;have:=hr0b hc
  exact ⟨by omega,by omega,by omega,by omega,fun st k1 k2=>by omega⟩
 obtain ⟨f1,f2,f3,f4,f5⟩:=hF
 have F5:=AD f5
 clear f5
 have HS0a:=AD hs0a
 have HS0b:=AD hs0b
 have HR0a:=AD hr0a
 have HR0b:=AD hr0b
 clear hs0a hs0b hr0a hr0b
 obtain ⟨d1,hd1⟩:∃d,d=m-a:=⟨_,rfl⟩
 obtain ⟨d2,hd2⟩:∃d,d=b-m:=⟨_,rfl⟩
 go_enter Tryd.func48,Tryd.ntmps48
 repeat' (first
  | (refine AU 27 ?_);(refine AP (.int _ (((d1:Nat):Int))) (V.as (V.subI rfl rfl (by omega)) (by omega)) (by kernel_rfl) ?_;go_step)|refine X1 ?_|refine JF 28 ?_|refine AG ?_;go_step|fail)
 repeat' (first
  | (refine AU 79 ?_);(refine AP (.int _ (((d2:Nat):Int))) (V.as (V.subI rfl rfl (by omega)) (by omega)) (by kernel_rfl) ?_;go_step)|refine X1 ?_|refine JF 80 ?_|refine AG ?_;go_step|fail)
 have h1':a+2≤m:=by omega
 have h2':m+2≤b:=by omega
 clear h1 h2 hd1 hd2
 by_cases hc:mid<m
 ·have e1:=HS0a.out hc
  have e2:=HR0a.out hc
  repeat' (first
   | (refine AU 131 ?_);(refine AP (.int _ (((a+b:Nat):Int))) (V.as (V.addI rfl rfl (by omega)) (by omega)) (by kernel_rfl) ?_;go_step)|(refine AU 133 ?_);(refine AP (.int _ (((mid:Nat):Int))) (V.as (V.shr rfl rfl BL (by omega) rfl) (by omega)) (by kernel_rfl) ?_;go_step)|(refine AU 137 ?_);(refine AP (.int _ (((T:Nat):Int))) (V.as (V.addI rfl rfl (by omega)) (by omega)) (by kernel_rfl) ?_;go_step)|(refine AU 143 ?_);(refine AP (.int _ (((s0:Nat):Int))) (V.as (V.subI rfl rfl (by omega)) (by omega)) (by kernel_rfl) ?_;go_step)|refine X0 ?_|refine My 132 ?_|refine Mz 134 ?_|refine Gf 140 ?_|refine AG ?_;go_step|fail)
  repeat' (first
   | (refine AU 148 ?_);(refine AP (.int _ (((T-1:Nat):Int))) (V.as (V.subI rfl rfl (by omega)) (by omega)) (by kernel_rfl) ?_;go_step)|refine X8 ?_|refine AG ?_;go_step|fail)
  go_loopg [20,21] (r0-s0) (fun gk iv jv w=>∃(st r:Nat),gk+st=r∧s0≤st∧r≤r0∧iv= .int .i64 st∧jv= .int .i64 r∧(s0<st→wk P (st-1)≤wk P (T-st))∧(r<r0→wk P (T-1-r)≤wk P r)∧St W w (BF g n c P::rs'))
  case atStart=>exact ⟨s0,r0,by omega,by omega,by omega,by first|rfl|rw [e1],by first|rfl|rw [e2],fun h=>by omega,fun h=>by omega,hS⟩
  case round=>
   clear hS
   obtain ⟨st,r,hk,hst,hr,rfl,rfl,hlo,hhi,hS⟩:=hrel
   have HLO:=AD hlo
   have HHI:=AD hhi
   clear hlo hhi
   have f5:=F5.out st hst (by omega)
   by_cases hlt:st<r
   ·obtain ⟨h,hh⟩:∃h,h=(st+r)/2:=⟨_,rfl⟩
    obtain ⟨y,hy⟩:∃y,y=T-1-h:=⟨_,rfl⟩
    have f6:=F5.out (h+1) (by omega) (by omega)
    obtain ⟨v,hv⟩:∃v,FQ (AL P y).w (AL P h).w=v:=⟨_,rfl⟩
    have hv2:=DZ (AL P y).w (AL P h).w
    rw [hv] at hv2
    have HV:=AD hv
    have HV2:=AD hv2
    clear hv hv2
    repeat' (first
     | (refine AU 154 ?_);(refine AP (.int _ (((st+r:Nat):Int))) (V.as (V.addI rfl rfl (by omega)) (by omega)) (by kernel_rfl) ?_;go_step)|refine N6 156 ?_|refine X0 ?_|refine X2 151 ?_|refine My 155 ?_|refine Mz 157 ?_|refine AG ?_;go_step|fail)
    refine AZ [11] (fun w=>St W w (BF g n c P::rs')) AB ?_
    replace hS:=hS.drew
    focus
     refine Ai 0 ?_
     refine Ai 1 ?_
     refine Ai 2 ?_
     refine Ai 3 ?_
     (refine BJ 4 (.int _ (((y:Nat):Int))) Cf AB AB AB Cv (V.as (V.subI rfl rfl (by omega)) (by omega)) AB ?_)
     go_step
     refine Y0 5 ?_
     refine Y1 6 [11,12,13] ?_
     refine Ai 7 ?_
     refine Ai 8 ?_
     refine Y0 9 ?_
     refine Y1 10 [11,12,13] ?_
     refine Cb 11 ?_
     refine Cp (f:=27) rfl rfl Tryd.call27 (Bb _ (AL P y) (AL P h)) ?_;rintro e w ⟨rfl,hE⟩;replace hS:=hS.ext hE;clear hE;rw [HV.out];refine ⟨_,rfl,?_⟩
     refine ⟨fun h=>absurd (by decide) h,?_⟩
     refine AK ?_
     go_step
     refine Dw 12 DG (V.lss rfl rfl) ?_;go_step
     refine Dw 13 DG (V.notD rfl) ?_;go_step
     refine AO AB ?_ _
    by_cases hc2:v<0
    ·repeat' (first
      | refine X0 ?_|refine AG ?_;go_step|fail)
     go_roundg (h-st)
     case measure=>omega
     case rel=>
      refine ⟨st,h,by omega,by omega,by omega,rfl,by go_num,HLO.out,fun k1=>?_,hS⟩
      have:=HV2.out.1 hc2
      rw [←hy]
      exact Int.le_of_lt this
    repeat' (first
     | refine N5 173 ?_|refine X0 ?_|refine AG ?_;go_step|fail)
    go_roundg (r-(h+1))
    case measure=>omega
    case rel=>
     refine ⟨h+1,r,by omega,by omega,by omega,by go_num,rfl,fun k1=>?_,HHI.out,hS⟩
     have:=HV2.out
     rw [show T-(h+1)=y by omega,Nat.add_sub_cancel]
     show (AL P h).w≤(AL P y).w
     omega
   obtain rfl:st=r:=by omega
   obtain ⟨en,hen⟩:∃en,en=T-st:=⟨_,rfl⟩
   have HLO2:Hid (a<st→m≤en→en<b→wk P (st-1)≤wk P en):=fun k1 k2 k3=>by
    rw [hen];exact HLO.out (by omega)
   have HHI2:Hid (m<en→st<m→wk P (en-1)≤wk P st):=fun k1 k2=>by
    rw [show en-1=T-1-st by omega];exact HHI.out (by omega)
   clear HLO HHI
   repeat' (first
    | refine X1 ?_|refine X2 151 ?_|refine AG ?_;go_step|fail)
   by_cases hrot:st<m∧m<en
   ·have hrot1:=hrot.1
    have hrot2:=hrot.2
    repeat' (first
     | refine N0 177 ?_|(refine Am 58 ?_);refine An AB Tryd.call58 (Ey W _ _ rs' g n c st m en P hS AI.head hrot1 hrot2 (by omega) hn M7) ?_;rintro e w ⟨rfl,Q,hQ,hS2⟩;replace hS:=hS2;clear hS2;refine As ?_;go_step|refine X0 ?_|refine X5 ?_|refine X6 180 ?_ ?_<;>intro hB<;>(try exact Ar)<;>go_step|refine X2 184 ?_|refine AG ?_;go_step|fail)
    obtain ⟨s1,s2,s3,s4,hx⟩:=C4 HA1.out HA2.out ham hmb hmid (show en=mid+m-st by omega) (by omega) (by omega) (by omega) (by omega) (by omega) HLO2.out HHI2.out hQ
    have hQr:=hQ.rg (show st≤m by omega) (show m≤en by omega)
    have hQl:=hQr.len
    have HQR:=AD (hQr.wide (show a≤st by omega) (show en≤b by omega) (by omega) (by omega))
    have HX:=AD hx
    have S1:=AD s1
    have S2:=AD s2
    have S3:=AD s3
    have S4:=AD s4
    have g1:a≤st:=by omega
    have g2:st≤mid:=by omega
    have g3:mid≤en:=by omega
    have g4:en≤b:=by omega
    have g5:mid-a≤N:=by omega
    have g6:b-mid≤N:=by omega
    have g7:a<mid:=by omega
    have g8:mid<b:=by omega
    have hQn:Q.length=n:=by omega
    clear hx s1 s2 s3 s4 hQ hQr HLO2 HHI2 HA1 HA2 F5 HS0a HS0b HR0a HR0b hen hlt hk hst hr f5 f1 f2 f3 f4 hT hmid e1 e2 hc h1' h2' hN hrot hQl hPl hp ham hmb
    by_cases hl:a<st∧st<mid
    ·obtain ⟨hl1,hl2⟩:=hl
     have hb2:mid≤n:=by omega
     have HC:=AD (fun (w:World)(hS:St W w (BF g n c Q::rs'))=>IH.out W w (BF g n c Q::rs') rs' g n c a st mid Q g5 hS AI.head hl1 hl2 hb2 hn S1.out S2.out)
     repeat' (first
      | (refine Am 48 ?_);refine An AB Tryd.call48 (HC.out _ hS) ?_;rintro e w ⟨rfl,R,hR1,hR2,hS2⟩;replace hS:=hS2;clear hS2;refine As ?_;go_step|refine X1 ?_|refine X5 ?_|refine X6 194 ?_ ?_<;>intro hB<;>(try exact Ar)<;>go_step|refine X2 198 ?_|refine AG ?_;go_step|fail)
     have S5:=AD (S3.out.same (Q:=R) fun x k1 k2=>hR2.out x (by omega))
     have S6:=AD (S4.out.same (Q:=R) fun x k1 k2=>hR2.out x (by omega))
     have R1:=AD hR1
     have R2:=AD hR2
     clear hR1 hR2
     by_cases hr:mid<en∧en<b
     ·obtain ⟨hr1,hr2⟩:=hr
      have HC:=AD (fun (w:World)(hS:St W w (BF g n c R::rs'))=>IH.out W w (BF g n c R::rs') rs' g n c mid en b R g6 hS AI.head hr1 hr2 hb hn S5.out S6.out)
      repeat' (first
       | (refine Am 48 ?_);refine An AB Tryd.call48 (HC.out _ hS) ?_;rintro e w ⟨rfl,Z,hZ1,hZ2,hS2⟩;replace hS:=hS2;clear hS2;refine As ?_;go_step|refine X1 ?_|refine X5 ?_|refine X6 208 ?_ ?_<;>intro hB<;>(try exact Ar)<;>go_step|refine X2 212 ?_|refine AG ?_;go_step|fail)
      go_end0
      obtain ⟨j1,j2⟩:=Ak (show a≤mid by omega) (show mid≤b by omega) (show b≤Q.length by rw [hQn];exact hb) HX.out R2.out hZ2 R1.out hZ1
      exact ⟨rfl,Z,j1,HQR.out.trans j2,hS⟩
     have hZ1:Bp Bg.w mid b R:=by
      by_cases c1:mid<en
      ·exact S5.out.sub (Nat.le_refl _) (by omega)
      exact S6.out.sub (by omega) (Nat.le_refl _)
     repeat' (first
      | refine X1 ?_|refine X5 ?_|refine X6 208 ?_ ?_<;>intro hB<;>(try exact Ar)<;>go_step|refine X2 212 ?_|refine AG ?_;go_step|fail)
     all_goals
      go_end0
      obtain ⟨j1,j2⟩:=Ak (show a≤mid by omega) (show mid≤b by omega) (show b≤Q.length by rw [hQn];exact hb) HX.out R2.out (Rg.refl _ _ _) R1.out hZ1
      exact ⟨rfl,R,j1,HQR.out.trans j2,hS⟩
    obtain ⟨R,hRe⟩:∃R,R=Q:=⟨Q,rfl⟩
    have hR2:Rg a mid Q R:=by rw [hRe];exact Rg.refl _ _ _
    have hR1:Bp Bg.w a mid R:=by
     rw [hRe]
     by_cases c1:a<st
     ·exact S1.out.sub (Nat.le_refl _) (by omega)
     exact S2.out.sub (by omega) (Nat.le_refl _)
    rw [←hRe] at hS
    repeat' (first
     | go_skip|((with_reducible refine It ?_);(first|go_big_want|go_step);go_step)|((with_reducible refine Az _ (.pick _ _ _) ?_);first|(refine BD rfl AB ?_;go_step)|(refine A9 rfl AB ?_;go_step))|((refine AU 194 ?_);(refine Cq _ (V.lss rfl rfl) AB (fun hB=>?_) (fun hB=>?_)<;>(try exact Ar)<;>go_step))|((refine AU 198 ?_);(refine Av AB (V.lss rfl rfl) ?_;go_step))|(refine AG ?_;go_step)|fail)
    all_goals
     have S5:=AD (S3.out.same (Q:=R) fun x k1 k2=>hR2.out x (by omega))
     have S6:=AD (S4.out.same (Q:=R) fun x k1 k2=>hR2.out x (by omega))
     have R1:=AD hR1
     have R2:=AD hR2
     clear hR1 hR2
     by_cases hr:mid<en∧en<b
     ·obtain ⟨hr1,hr2⟩:=hr
      have HC:=AD (fun (w:World)(hS:St W w (BF g n c R::rs'))=>IH.out W w (BF g n c R::rs') rs' g n c mid en b R g6 hS AI.head hr1 hr2 hb hn S5.out S6.out)
      repeat' (first
       | (refine Am 48 ?_);refine An AB Tryd.call48 (HC.out _ hS) ?_;rintro e w ⟨rfl,Z,hZ1,hZ2,hS2⟩;replace hS:=hS2;clear hS2;refine As ?_;go_step|refine X1 ?_|refine X5 ?_|refine X6 208 ?_ ?_<;>intro hB<;>(try exact Ar)<;>go_step|refine X2 212 ?_|refine AG ?_;go_step|fail)
      go_end0
      obtain ⟨j1,j2⟩:=Ak (show a≤mid by omega) (show mid≤b by omega) (show b≤Q.length by rw [hQn];exact hb) HX.out R2.out hZ2 R1.out hZ1
      exact ⟨rfl,Z,j1,HQR.out.trans j2,hS⟩
     have hZ1:Bp Bg.w mid b R:=by
      by_cases c1:mid<en
      ·exact S5.out.sub (Nat.le_refl _) (by omega)
      exact S6.out.sub (by omega) (Nat.le_refl _)
     repeat' (first
      | refine X1 ?_|refine X5 ?_|refine X6 208 ?_ ?_<;>intro hB<;>(try exact Ar)<;>go_step|refine X2 212 ?_|refine AG ?_;go_step|fail)
     all_goals
      go_end0
      obtain ⟨j1,j2⟩:=Ak (show a≤mid by omega) (show mid≤b by omega) (show b≤Q.length by rw [hQn];exact hb) HX.out R2.out (Rg.refl _ _ _) R1.out hZ1
      exact ⟨rfl,R,j1,HQR.out.trans j2,hS⟩
   obtain ⟨Q,hQe,hQ⟩:∃Q,Q=P∧Gc st m en P Q:=⟨P,rfl,Gc.triv (by omega) (by omega) (by omega) (by omega)⟩
   rw [←hQe] at hS
   repeat' (first
    | refine N0 177 ?_|refine X0 ?_|refine X5 ?_|refine X6 180 ?_ ?_<;>intro hB<;>(try exact Ar)<;>go_step|refine X2 184 ?_|refine AG ?_;go_step|fail)
   all_goals
    obtain ⟨s1,s2,s3,s4,hx⟩:=C4 HA1.out HA2.out ham hmb hmid (show en=mid+m-st by omega) (by omega) (by omega) (by omega) (by omega) (by omega) HLO2.out HHI2.out hQ
    have hQr:=hQ.rg (show st≤m by omega) (show m≤en by omega)
    have hQl:=hQr.len
    have HQR:=AD (hQr.wide (show a≤st by omega) (show en≤b by omega) (by omega) (by omega))
    have HX:=AD hx
    have S1:=AD s1
    have S2:=AD s2
    have S3:=AD s3
    have S4:=AD s4
    have g1:a≤st:=by omega
    have g2:st≤mid:=by omega
    have g3:mid≤en:=by omega
    have g4:en≤b:=by omega
    have g5:mid-a≤N:=by omega
    have g6:b-mid≤N:=by omega
    have g7:a<mid:=by omega
    have g8:mid<b:=by omega
    have hQn:Q.length=n:=by omega
    clear hx s1 s2 s3 s4 hQ hQr HLO2 HHI2 HA1 HA2 F5 HS0a HS0b HR0a HR0b hen hlt hk hst hr f5 f1 f2 f3 f4 hT hmid e1 e2 hc h1' h2' hN hrot hQl hPl hp ham hmb
    by_cases hl:a<st∧st<mid
    ·obtain ⟨hl1,hl2⟩:=hl
     have hb2:mid≤n:=by omega
     have HC:=AD (fun (w:World)(hS:St W w (BF g n c Q::rs'))=>IH.out W w (BF g n c Q::rs') rs' g n c a st mid Q g5 hS AI.head hl1 hl2 hb2 hn S1.out S2.out)
     repeat' (first
      | (refine Am 48 ?_);refine An AB Tryd.call48 (HC.out _ hS) ?_;rintro e w ⟨rfl,R,hR1,hR2,hS2⟩;replace hS:=hS2;clear hS2;refine As ?_;go_step|refine X1 ?_|refine X5 ?_|refine X6 194 ?_ ?_<;>intro hB<;>(try exact Ar)<;>go_step|refine X2 198 ?_|refine AG ?_;go_step|fail)
     have S5:=AD (S3.out.same (Q:=R) fun x k1 k2=>hR2.out x (by omega))
     have S6:=AD (S4.out.same (Q:=R) fun x k1 k2=>hR2.out x (by omega))
     have R1:=AD hR1
     have R2:=AD hR2
     clear hR1 hR2
     by_cases hr:mid<en∧en<b
     ·obtain ⟨hr1,hr2⟩:=hr
      have HC:=AD (fun (w:World)(hS:St W w (BF g n c R::rs'))=>IH.out W w (BF g n c R::rs') rs' g n c mid en b R g6 hS AI.head hr1 hr2 hb hn S5.out S6.out)
      repeat' (first
       | (refine Am 48 ?_);refine An AB Tryd.call48 (HC.out _ hS) ?_;rintro e w ⟨rfl,Z,hZ1,hZ2,hS2⟩;replace hS:=hS2;clear hS2;refine As ?_;go_step|refine X1 ?_|refine X5 ?_|refine X6 208 ?_ ?_<;>intro hB<;>(try exact Ar)<;>go_step|refine X2 212 ?_|refine AG ?_;go_step|fail)
      go_end0
      obtain ⟨j1,j2⟩:=Ak (show a≤mid by omega) (show mid≤b by omega) (show b≤Q.length by rw [hQn];exact hb) HX.out R2.out hZ2 R1.out hZ1
      exact ⟨rfl,Z,j1,HQR.out.trans j2,hS⟩
     have hZ1:Bp Bg.w mid b R:=by
      by_cases c1:mid<en
      ·exact S5.out.sub (Nat.le_refl _) (by omega)
      exact S6.out.sub (by omega) (Nat.le_refl _)
     repeat' (first
      | go_skip|((with_reducible refine It ?_);(first|go_big_want|go_step);go_step)|((with_reducible refine Az _ (.pick _ _ _) ?_);first|(refine BD rfl AB ?_;go_step)|(refine A9 rfl AB ?_;go_step))|((refine AU 208 ?_);(refine Cq _ (V.lss rfl rfl) AB (fun hB=>?_) (fun hB=>?_)<;>(try exact Ar)<;>go_step))|((refine AU 212 ?_);(refine Av AB (V.lss rfl rfl) ?_;go_step))|(refine AG ?_;go_step)|fail)
     all_goals
      go_end0
      obtain ⟨j1,j2⟩:=Ak (show a≤mid by omega) (show mid≤b by omega) (show b≤Q.length by rw [hQn];exact hb) HX.out R2.out (Rg.refl _ _ _) R1.out hZ1
      exact ⟨rfl,R,j1,HQR.out.trans j2,hS⟩
    obtain ⟨R,hRe⟩:∃R,R=Q:=⟨Q,rfl⟩
    have hR2:Rg a mid Q R:=by rw [hRe];exact Rg.refl _ _ _
    have hR1:Bp Bg.w a mid R:=by
     rw [hRe]
     by_cases c1:a<st
     ·exact S1.out.sub (Nat.le_refl _) (by omega)
     exact S2.out.sub (by omega) (Nat.le_refl _)
    rw [←hRe] at hS
    repeat' (first
     | go_skip|((with_reducible refine It ?_);(first|go_big_want|go_step);go_step)|((with_reducible refine Az _ (.pick _ _ _) ?_);first|(refine BD rfl AB ?_;go_step)|(refine A9 rfl AB ?_;go_step))|((refine AU 194 ?_);(refine Cq _ (V.lss rfl rfl) AB (fun hB=>?_) (fun hB=>?_)<;>(try exact Ar)<;>go_step))|((refine AU 198 ?_);(refine Av AB (V.lss rfl rfl) ?_;go_step))|(refine AG ?_;go_step)|fail)
    all_goals
     have S5:=AD (S3.out.same (Q:=R) fun x k1 k2=>hR2.out x (by omega))
     have S6:=AD (S4.out.same (Q:=R) fun x k1 k2=>hR2.out x (by omega))
     have R1:=AD hR1
     have R2:=AD hR2
     clear hR1 hR2
     by_cases hr:mid<en∧en<b
     ·obtain ⟨hr1,hr2⟩:=hr
      have HC:=AD (fun (w:World)(hS:St W w (BF g n c R::rs'))=>IH.out W w (BF g n c R::rs') rs' g n c mid en b R g6 hS AI.head hr1 hr2 hb hn S5.out S6.out)
      repeat' (first
       | (refine Am 48 ?_);refine An AB Tryd.call48 (HC.out _ hS) ?_;rintro e w ⟨rfl,Z,hZ1,hZ2,hS2⟩;replace hS:=hS2;clear hS2;refine As ?_;go_step|refine X1 ?_|refine X5 ?_|refine X6 208 ?_ ?_<;>intro hB<;>(try exact Ar)<;>go_step|refine X2 212 ?_|refine AG ?_;go_step|fail)
      go_end0
      obtain ⟨j1,j2⟩:=Ak (show a≤mid by omega) (show mid≤b by omega) (show b≤Q.length by rw [hQn];exact hb) HX.out R2.out hZ2 R1.out hZ1
      exact ⟨rfl,Z,j1,HQR.out.trans j2,hS⟩
     have hZ1:Bp Bg.w mid b R:=by
      by_cases c1:mid<en
      ·exact S5.out.sub (Nat.le_refl _) (by omega)
      exact S6.out.sub (by omega) (Nat.le_refl _)
     repeat' (first
      | go_skip|((with_reducible refine It ?_);(first|go_big_want|go_step);go_step)|((with_reducible refine Az _ (.pick _ _ _) ?_);first|(refine BD rfl AB ?_;go_step)|(refine A9 rfl AB ?_;go_step))|((refine AU 208 ?_);(refine Cq _ (V.lss rfl rfl) AB (fun hB=>?_) (fun hB=>?_)<;>(try exact Ar)<;>go_step))|((refine AU 212 ?_);(refine Av AB (V.lss rfl rfl) ?_;go_step))|(refine AG ?_;go_step)|fail)
     all_goals
      go_end0
      obtain ⟨j1,j2⟩:=Ak (show a≤mid by omega) (show mid≤b by omega) (show b≤Q.length by rw [hQn];exact hb) HX.out R2.out (Rg.refl _ _ _) R1.out hZ1
      exact ⟨rfl,R,j1,HQR.out.trans j2,hS⟩
 have e1:=HS0b.out hc
 have e2:=HR0b.out hc
 repeat' (first
  | (refine AU 131 ?_);(refine AP (.int _ (((a+b:Nat):Int))) (V.as (V.addI rfl rfl (by omega)) (by omega)) (by kernel_rfl) ?_;go_step)|(refine AU 133 ?_);(refine AP (.int _ (((mid:Nat):Int))) (V.as (V.shr rfl rfl BL (by omega) rfl) (by omega)) (by kernel_rfl) ?_;go_step)|(refine AU 137 ?_);(refine AP (.int _ (((T:Nat):Int))) (V.as (V.addI rfl rfl (by omega)) (by omega)) (by kernel_rfl) ?_;go_step)|refine X0 ?_|refine My 132 ?_|refine Mz 134 ?_|refine Gf 140 ?_|refine AG ?_;go_step|fail)
 repeat' (first
  | (refine AU 148 ?_);(refine AP (.int _ (((T-1:Nat):Int))) (V.as (V.subI rfl rfl (by omega)) (by omega)) (by kernel_rfl) ?_;go_step)|refine X8 ?_|refine AG ?_;go_step|fail)
 go_loopg [20,21] (r0-s0) (fun gk iv jv w=>∃(st r:Nat),gk+st=r∧s0≤st∧r≤r0∧iv= .int .i64 st∧jv= .int .i64 r∧(s0<st→wk P (st-1)≤wk P (T-st))∧(r<r0→wk P (T-1-r)≤wk P r)∧St W w (BF g n c P::rs'))
 case atStart=>exact ⟨s0,r0,by omega,by omega,by omega,by first|rfl|rw [e1],by first|rfl|rw [e2],fun h=>by omega,fun h=>by omega,hS⟩
 case round=>
  clear hS
  obtain ⟨st,r,hk,hst,hr,rfl,rfl,hlo,hhi,hS⟩:=hrel
  have HLO:=AD hlo
  have HHI:=AD hhi
  clear hlo hhi
  have f5:=F5.out st hst (by omega)
  by_cases hlt:st<r
  ·obtain ⟨h,hh⟩:∃h,h=(st+r)/2:=⟨_,rfl⟩
   obtain ⟨y,hy⟩:∃y,y=T-1-h:=⟨_,rfl⟩
   have f6:=F5.out (h+1) (by omega) (by omega)
   obtain ⟨v,hv⟩:∃v,FQ (AL P y).w (AL P h).w=v:=⟨_,rfl⟩
   have hv2:=DZ (AL P y).w (AL P h).w
   rw [hv] at hv2
   have HV:=AD hv
   have HV2:=AD hv2
   clear hv hv2
   repeat' (first
    | (refine AU 154 ?_);(refine AP (.int _ (((st+r:Nat):Int))) (V.as (V.addI rfl rfl (by omega)) (by omega)) (by kernel_rfl) ?_;go_step)|refine N6 156 ?_|refine X0 ?_|refine X2 151 ?_|refine My 155 ?_|refine Mz 157 ?_|refine AG ?_;go_step|fail)
   refine AZ [11] (fun w=>St W w (BF g n c P::rs')) AB ?_
   replace hS:=hS.drew
   focus
    refine Ai 0 ?_
    refine Ai 1 ?_
    refine Ai 2 ?_
    refine Ai 3 ?_
    (refine BJ 4 (.int _ (((y:Nat):Int))) Cf AB AB AB Cv (V.as (V.subI rfl rfl (by omega)) (by omega)) AB ?_)
    go_step
    refine Y0 5 ?_
    refine Y1 6 [11,12,13] ?_
    refine Ai 7 ?_
    refine Ai 8 ?_
    refine Y0 9 ?_
    refine Y1 10 [11,12,13] ?_
    refine Cb 11 ?_
    refine Cp (f:=27) rfl rfl Tryd.call27 (Bb _ (AL P y) (AL P h)) ?_;rintro e w ⟨rfl,hE⟩;replace hS:=hS.ext hE;clear hE;rw [HV.out];refine ⟨_,rfl,?_⟩
    refine ⟨fun h=>absurd (by decide) h,?_⟩
    refine AK ?_
    go_step
    refine Dw 12 DG (V.lss rfl rfl) ?_;go_step
    refine Dw 13 DG (V.notD rfl) ?_;go_step
    refine AO AB ?_ _
   by_cases hc2:v<0
   ·repeat' (first
     | refine X0 ?_|refine AG ?_;go_step|fail)
    go_roundg (h-st)
    case measure=>omega
    case rel=>
     refine ⟨st,h,by omega,by omega,by omega,rfl,by go_num,HLO.out,fun k1=>?_,hS⟩
     have:=HV2.out.1 hc2
     rw [←hy]
     exact Int.le_of_lt this
   repeat' (first
    | refine N5 173 ?_|refine X0 ?_|refine AG ?_;go_step|fail)
   go_roundg (r-(h+1))
   case measure=>omega
   case rel=>
    refine ⟨h+1,r,by omega,by omega,by omega,by go_num,rfl,fun k1=>?_,HHI.out,hS⟩
    have:=HV2.out
    rw [show T-(h+1)=y by omega,Nat.add_sub_cancel]
    show (AL P h).w≤(AL P y).w
    omega
  obtain rfl:st=r:=by omega
  obtain ⟨en,hen⟩:∃en,en=T-st:=⟨_,rfl⟩
  have HLO2:Hid (a<st→m≤en→en<b→wk P (st-1)≤wk P en):=fun k1 k2 k3=>by
   rw [hen];exact HLO.out (by omega)
  have HHI2:Hid (m<en→st<m→wk P (en-1)≤wk P st):=fun k1 k2=>by
   rw [show en-1=T-1-st by omega];exact HHI.out (by omega)
  clear HLO HHI
  repeat' (first
   | refine X1 ?_|refine X2 151 ?_|refine AG ?_;go_step|fail)
  by_cases hrot:st<m∧m<en
  ·have hrot1:=hrot.1
   have hrot2:=hrot.2
   repeat' (first
    | refine N0 177 ?_|(refine Am 58 ?_);refine An AB Tryd.call58 (Ey W _ _ rs' g n c st m en P hS AI.head hrot1 hrot2 (by omega) hn M7) ?_;rintro e w ⟨rfl,Q,hQ,hS2⟩;replace hS:=hS2;clear hS2;refine As ?_;go_step|refine X0 ?_|refine X5 ?_|refine X6 180 ?_ ?_<;>intro hB<;>(try exact Ar)<;>go_step|refine X2 184 ?_|refine AG ?_;go_step|fail)
   obtain ⟨s1,s2,s3,s4,hx⟩:=C4 HA1.out HA2.out ham hmb hmid (show en=mid+m-st by omega) (by omega) (by omega) (by omega) (by omega) (by omega) HLO2.out HHI2.out hQ
   have hQr:=hQ.rg (show st≤m by omega) (show m≤en by omega)
   have hQl:=hQr.len
   have HQR:=AD (hQr.wide (show a≤st by omega) (show en≤b by omega) (by omega) (by omega))
   have HX:=AD hx
   have S1:=AD s1
   have S2:=AD s2
   have S3:=AD s3
   have S4:=AD s4
   have g1:a≤st:=by omega
   have g2:st≤mid:=by omega
   have g3:mid≤en:=by omega
   have g4:en≤b:=by omega
   have g5:mid-a≤N:=by omega
   have g6:b-mid≤N:=by omega
   have g7:a<mid:=by omega
   have g8:mid<b:=by omega
   have hQn:Q.length=n:=by omega
   clear hx s1 s2 s3 s4 hQ hQr HLO2 HHI2 HA1 HA2 F5 HS0a HS0b HR0a HR0b hen hlt hk hst hr f5 f1 f2 f3 f4 hT hmid e1 e2 hc h1' h2' hN hrot hQl hPl hp ham hmb
   by_cases hl:a<st∧st<mid
   ·obtain ⟨hl1,hl2⟩:=hl
    have hb2:mid≤n:=by omega
    have HC:=AD (fun (w:World)(hS:St W w (BF g n c Q::rs'))=>IH.out W w (BF g n c Q::rs') rs' g n c a st mid Q g5 hS AI.head hl1 hl2 hb2 hn S1.out S2.out)
    repeat' (first
     | (refine Am 48 ?_);refine An AB Tryd.call48 (HC.out _ hS) ?_;rintro e w ⟨rfl,R,hR1,hR2,hS2⟩;replace hS:=hS2;clear hS2;refine As ?_;go_step|refine X1 ?_|refine X5 ?_|refine X6 194 ?_ ?_<;>intro hB<;>(try exact Ar)<;>go_step|refine X2 198 ?_|refine AG ?_;go_step|fail)
    have S5:=AD (S3.out.same (Q:=R) fun x k1 k2=>hR2.out x (by omega))
    have S6:=AD (S4.out.same (Q:=R) fun x k1 k2=>hR2.out x (by omega))
    have R1:=AD hR1
    have R2:=AD hR2
    clear hR1 hR2
    by_cases hr:mid<en∧en<b
    ·obtain ⟨hr1,hr2⟩:=hr
     have HC:=AD (fun (w:World)(hS:St W w (BF g n c R::rs'))=>IH.out W w (BF g n c R::rs') rs' g n c mid en b R g6 hS AI.head hr1 hr2 hb hn S5.out S6.out)
     repeat' (first
      | (refine Am 48 ?_);refine An AB Tryd.call48 (HC.out _ hS) ?_;rintro e w ⟨rfl,Z,hZ1,hZ2,hS2⟩;replace hS:=hS2;clear hS2;refine As ?_;go_step|refine X1 ?_|refine X5 ?_|refine X6 208 ?_ ?_<;>intro hB<;>(try exact Ar)<;>go_step|refine X2 212 ?_|refine AG ?_;go_step|fail)
     go_end0
     obtain ⟨j1,j2⟩:=Ak (show a≤mid by omega) (show mid≤b by omega) (show b≤Q.length by rw [hQn];exact hb) HX.out R2.out hZ2 R1.out hZ1
     exact ⟨rfl,Z,j1,HQR.out.trans j2,hS⟩
    have hZ1:Bp Bg.w mid b R:=by
     by_cases c1:mid<en
     ·exact S5.out.sub (Nat.le_refl _) (by omega)
     exact S6.out.sub (by omega) (Nat.le_refl _)
    repeat' (first
     | go_skip|((with_reducible refine It ?_);(first|go_big_want|go_step);go_step)|((with_reducible refine Az _ (.pick _ _ _) ?_);first|(refine BD rfl AB ?_;go_step)|(refine A9 rfl AB ?_;go_step))|((refine AU 208 ?_);(refine Cq _ (V.lss rfl rfl) AB (fun hB=>?_) (fun hB=>?_)<;>(try exact Ar)<;>go_step))|((refine AU 212 ?_);(refine Av AB (V.lss rfl rfl) ?_;go_step))|(refine AG ?_;go_step)|fail)
    all_goals
     go_end0
     obtain ⟨j1,j2⟩:=Ak (show a≤mid by omega) (show mid≤b by omega) (show b≤Q.length by rw [hQn];exact hb) HX.out R2.out (Rg.refl _ _ _) R1.out hZ1
     exact ⟨rfl,R,j1,HQR.out.trans j2,hS⟩
   obtain ⟨R,hRe⟩:∃R,R=Q:=⟨Q,rfl⟩
   have hR2:Rg a mid Q R:=by rw [hRe];exact Rg.refl _ _ _
   have hR1:Bp Bg.w a mid R:=by
    rw [hRe]
    by_cases c1:a<st
    ·exact S1.out.sub (Nat.le_refl _) (by omega)
    exact S2.out.sub (by omega) (Nat.le_refl _)
   rw [←hRe] at hS
   repeat' (first
    | go_skip|((with_reducible refine It ?_);(first|go_big_want|go_step);go_step)|((with_reducible refine Az _ (.pick _ _ _) ?_);(refine A9 rfl AB ?_;go_step))|((refine AU 194 ?_);(refine Cq _ (V.lss rfl rfl) AB (fun hB=>?_) (fun hB=>?_)<;>(try exact Ar)<;>go_step))|(refine AG ?_;go_step)|fail)
   all_goals
    have S5:=AD (S3.out.same (Q:=R) fun x k1 k2=>hR2.out x (by omega))
    have S6:=AD (S4.out.same (Q:=R) fun x k1 k2=>hR2.out x (by omega))
    have R1:=AD hR1
    have R2:=AD hR2
    clear hR1 hR2
    by_cases hr:mid<en∧en<b
    ·obtain ⟨hr1,hr2⟩:=hr
     have HC:=AD (fun (w:World)(hS:St W w (BF g n c R::rs'))=>IH.out W w (BF g n c R::rs') rs' g n c mid en b R g6 hS AI.head hr1 hr2 hb hn S5.out S6.out)
     repeat' (first
      | (refine Am 48 ?_);refine An AB Tryd.call48 (HC.out _ hS) ?_;rintro e w ⟨rfl,Z,hZ1,hZ2,hS2⟩;replace hS:=hS2;clear hS2;refine As ?_;go_step|refine X1 ?_|refine X5 ?_|refine X6 208 ?_ ?_<;>intro hB<;>(try exact Ar)<;>go_step|refine X2 212 ?_|refine AG ?_;go_step|fail)
     go_end0
     obtain ⟨j1,j2⟩:=Ak (show a≤mid by omega) (show mid≤b by omega) (show b≤Q.length by rw [hQn];exact hb) HX.out R2.out hZ2 R1.out hZ1
     exact ⟨rfl,Z,j1,HQR.out.trans j2,hS⟩
    have hZ1:Bp Bg.w mid b R:=by
     by_cases c1:mid<en
     ·exact S5.out.sub (Nat.le_refl _) (by omega)
     exact S6.out.sub (by omega) (Nat.le_refl _)
    repeat' (first
     | go_skip|((with_reducible refine It ?_);(first|go_big_want|go_step);go_step)|((with_reducible refine Az _ (.pick _ _ _) ?_);first|(refine BD rfl AB ?_;go_step)|(refine A9 rfl AB ?_;go_step))|((refine AU 208 ?_);(refine Cq _ (V.lss rfl rfl) AB (fun hB=>?_) (fun hB=>?_)<;>(try exact Ar)<;>go_step))|((refine AU 212 ?_);(refine Av AB (V.lss rfl rfl) ?_;go_step))|(refine AG ?_;go_step)|fail)
    all_goals
     go_end0
     obtain ⟨j1,j2⟩:=Ak (show a≤mid by omega) (show mid≤b by omega) (show b≤Q.length by rw [hQn];exact hb) HX.out R2.out (Rg.refl _ _ _) R1.out hZ1
     exact ⟨rfl,R,j1,HQR.out.trans j2,hS⟩
  obtain ⟨Q,hQe,hQ⟩:∃Q,Q=P∧Gc st m en P Q:=⟨P,rfl,Gc.triv (by omega) (by omega) (by omega) (by omega)⟩
  rw [←hQe] at hS
  repeat' (first
   | refine N0 177 ?_|go_skip|refine X0 ?_|refine H0 ?_|refine X6 180 ?_ ?_<;>intro hB<;>(try exact Ar)<;>go_step|refine AG ?_;go_step|fail)
  all_goals
   obtain ⟨s1,s2,s3,s4,hx⟩:=C4 HA1.out HA2.out ham hmb hmid (show en=mid+m-st by omega) (by omega) (by omega) (by omega) (by omega) (by omega) HLO2.out HHI2.out hQ
   have hQr:=hQ.rg (show st≤m by omega) (show m≤en by omega)
   have hQl:=hQr.len
   have HQR:=AD (hQr.wide (show a≤st by omega) (show en≤b by omega) (by omega) (by omega))
   have HX:=AD hx
   have S1:=AD s1
   have S2:=AD s2
   have S3:=AD s3
   have S4:=AD s4
   have g1:a≤st:=by omega
   have g2:st≤mid:=by omega
   have g3:mid≤en:=by omega
   have g4:en≤b:=by omega
   have g5:mid-a≤N:=by omega
   have g6:b-mid≤N:=by omega
   have g7:a<mid:=by omega
   have g8:mid<b:=by omega
   have hQn:Q.length=n:=by omega
   clear hx s1 s2 s3 s4 hQ hQr HLO2 HHI2 HA1 HA2 F5 HS0a HS0b HR0a HR0b hen hlt hk hst hr f5 f1 f2 f3 f4 hT hmid e1 e2 hc h1' h2' hN hrot hQl hPl hp ham hmb
   by_cases hl:a<st∧st<mid
   ·obtain ⟨hl1,hl2⟩:=hl
    have hb2:mid≤n:=by omega
    have HC:=AD (fun (w:World)(hS:St W w (BF g n c Q::rs'))=>IH.out W w (BF g n c Q::rs') rs' g n c a st mid Q g5 hS AI.head hl1 hl2 hb2 hn S1.out S2.out)
    repeat' (first
     | (refine Am 48 ?_);refine An AB Tryd.call48 (HC.out _ hS) ?_;rintro e w ⟨rfl,R,hR1,hR2,hS2⟩;replace hS:=hS2;clear hS2;refine As ?_;go_step|refine X1 ?_|refine X5 ?_|refine X6 194 ?_ ?_<;>intro hB<;>(try exact Ar)<;>go_step|refine X2 198 ?_|refine AG ?_;go_step|fail)
    have S5:=AD (S3.out.same (Q:=R) fun x k1 k2=>hR2.out x (by omega))
    have S6:=AD (S4.out.same (Q:=R) fun x k1 k2=>hR2.out x (by omega))
    have R1:=AD hR1
    have R2:=AD hR2
    clear hR1 hR2
    by_cases hr:mid<en∧en<b
    ·obtain ⟨hr1,hr2⟩:=hr
     have HC:=AD (fun (w:World)(hS:St W w (BF g n c R::rs'))=>IH.out W w (BF g n c R::rs') rs' g n c mid en b R g6 hS AI.head hr1 hr2 hb hn S5.out S6.out)
     repeat' (first
      | (refine Am 48 ?_);refine An AB Tryd.call48 (HC.out _ hS) ?_;rintro e w ⟨rfl,Z,hZ1,hZ2,hS2⟩;replace hS:=hS2;clear hS2;refine As ?_;go_step|refine X1 ?_|refine X5 ?_|refine X6 208 ?_ ?_<;>intro hB<;>(try exact Ar)<;>go_step|refine X2 212 ?_|refine AG ?_;go_step|fail)
     go_end0
     obtain ⟨j1,j2⟩:=Ak (show a≤mid by omega) (show mid≤b by omega) (show b≤Q.length by rw [hQn];exact hb) HX.out R2.out hZ2 R1.out hZ1
     exact ⟨rfl,Z,j1,HQR.out.trans j2,hS⟩
    have hZ1:Bp Bg.w mid b R:=by
     by_cases c1:mid<en
     ·exact S5.out.sub (Nat.le_refl _) (by omega)
     exact S6.out.sub (by omega) (Nat.le_refl _)
    repeat' (first
     | go_skip|((with_reducible refine It ?_);(first|go_big_want|go_step);go_step)|((with_reducible refine Az _ (.pick _ _ _) ?_);first|(refine BD rfl AB ?_;go_step)|(refine A9 rfl AB ?_;go_step))|((refine AU 208 ?_);(refine Cq _ (V.lss rfl rfl) AB (fun hB=>?_) (fun hB=>?_)<;>(try exact Ar)<;>go_step))|((refine AU 212 ?_);(refine Av AB (V.lss rfl rfl) ?_;go_step))|(refine AG ?_;go_step)|fail)
    all_goals
     go_end0
     obtain ⟨j1,j2⟩:=Ak (show a≤mid by omega) (show mid≤b by omega) (show b≤Q.length by rw [hQn];exact hb) HX.out R2.out (Rg.refl _ _ _) R1.out hZ1
     exact ⟨rfl,R,j1,HQR.out.trans j2,hS⟩
   obtain ⟨R,hRe⟩:∃R,R=Q:=⟨Q,rfl⟩
   have hR2:Rg a mid Q R:=by rw [hRe];exact Rg.refl _ _ _
   have hR1:Bp Bg.w a mid R:=by
    rw [hRe]
    by_cases c1:a<st
    ·exact S1.out.sub (Nat.le_refl _) (by omega)
    exact S2.out.sub (by omega) (Nat.le_refl _)
   rw [←hRe] at hS
   repeat' (first
    | go_skip|((with_reducible refine It ?_);(first|go_big_want|go_step);go_step)|((with_reducible refine Az _ (.pick _ _ _) ?_);first|(refine BD rfl AB ?_;go_step)|(refine A9 rfl AB ?_;go_step))|((refine AU 194 ?_);(refine Cq _ (V.lss rfl rfl) AB (fun hB=>?_) (fun hB=>?_)<;>(try exact Ar)<;>go_step))|((refine AU 198 ?_);(refine Av AB (V.lss rfl rfl) ?_;go_step))|(refine AG ?_;go_step)|fail)
   all_goals
    have S5:=AD (S3.out.same (Q:=R) fun x k1 k2=>hR2.out x (by omega))
    have S6:=AD (S4.out.same (Q:=R) fun x k1 k2=>hR2.out x (by omega))
    have R1:=AD hR1
    have R2:=AD hR2
    clear hR1 hR2
    by_cases hr:mid<en∧en<b
    ·obtain ⟨hr1,hr2⟩:=hr
     have HC:=AD (fun (w:World)(hS:St W w (BF g n c R::rs'))=>IH.out W w (BF g n c R::rs') rs' g n c mid en b R g6 hS AI.head hr1 hr2 hb hn S5.out S6.out)
     repeat' (first
      | (refine Am 48 ?_);refine An AB Tryd.call48 (HC.out _ hS) ?_;rintro e w ⟨rfl,Z,hZ1,hZ2,hS2⟩;replace hS:=hS2;clear hS2;refine As ?_;go_step|refine X1 ?_|refine X5 ?_|refine X6 208 ?_ ?_<;>intro hB<;>(try exact Ar)<;>go_step|refine X2 212 ?_|refine AG ?_;go_step|fail)
     go_end0
     obtain ⟨j1,j2⟩:=Ak (show a≤mid by omega) (show mid≤b by omega) (show b≤Q.length by rw [hQn];exact hb) HX.out R2.out hZ2 R1.out hZ1
     exact ⟨rfl,Z,j1,HQR.out.trans j2,hS⟩
    have hZ1:Bp Bg.w mid b R:=by
     by_cases c1:mid<en
     ·exact S5.out.sub (Nat.le_refl _) (by omega)
     exact S6.out.sub (by omega) (Nat.le_refl _)
    repeat' (first
     | go_skip|((with_reducible refine It ?_);(first|go_big_want|go_step);go_step)|((with_reducible refine Az _ (.pick _ _ _) ?_);first|(refine BD rfl AB ?_;go_step)|(refine A9 rfl AB ?_;go_step))|((refine AU 208 ?_);(refine Cq _ (V.lss rfl rfl) AB (fun hB=>?_) (fun hB=>?_)<;>(try exact Ar)<;>go_step))|((refine AU 212 ?_);(refine Av AB (V.lss rfl rfl) ?_;go_step))|(refine AG ?_;go_step)|fail)
    all_goals
     go_end0
     obtain ⟨j1,j2⟩:=Ak (show a≤mid by omega) (show mid≤b by omega) (show b≤Q.length by rw [hQn];exact hb) HX.out R2.out (Rg.refl _ _ _) R1.out hZ1
     exact ⟨rfl,R,j1,HQR.out.trans j2,hS⟩
end Go.Proofs.YtkcbhcajfcfmmaaDoor
