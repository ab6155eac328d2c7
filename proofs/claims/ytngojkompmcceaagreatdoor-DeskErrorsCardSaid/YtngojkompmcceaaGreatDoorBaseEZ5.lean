/- What the laws DeskErrors need, part 5. -/
import Derived.Test.YtngojkompmcceaaGreatDoorBaseEZ2
import Derived.Test.YtngojkompmcceaaGreatDoorBaseEZ4
namespace Go.Proofs.YtngojkompmcceaaGreatDoor
attribute [local irreducible] Region.wanted
open Go.RowKit
set_option linter.unusedVariables false
set_option maxRecDepth 100000
set_option maxHeartbeats 8000000
theorem ES(N:Nat):∀(W w0:World)(rs rs':List Af)(g n c a m b:Nat)(P:List Bu),b-a≤N→St W w0 rs→AK (BG g n c P) rs rs'→a<m→m<b→b≤n→n≤1000000→B7 Bu.w a m P→B7 Bu.w m b P→
 Calls Tryz.prog 112 #[.slice (some ⟨g,0,none⟩) n c, .int .i64 a, .int .i64 m, .int .i64 b,Oo] w0 fun e w=>e= .returned (.tuple #[])∧∃Q,B7 Bu.w a b Q∧Rg a b P Q∧St W w (BG g n c Q::rs'):=by
 induction N with
 | zero=>intro W w0 rs rs' g n c a m b P hN;omega
 | succ N ih=>
 intro W w0 rs rs' g n c a m b P hN hS hp ham hmb hb hn hA1 hA2
 replace hS:=hS.pull hp
 have he:=BV
 have h1e:=He
 have hPl:=CR hS AK.head BV (by decide)
 have IH:=AD ih
 have HA1:=AD hA1
 have HA2:=AD hA2
 clear ih hA1 hA2
 by_cases h1:m-a=1
 ·obtain rfl:m=a+1:=by omega
  go_enter Tryz.func112,Tryz.ntmps112
  repeat' (first
   | (refine AM 27 ?_);(refine AR (.int _ (1)) (V.as (V.subI rfl rfl (by omega)) (by omega)) (by kernel_rfl) ?_;go_step)|refine X0 ?_|refine K9 28 ?_|refine AF ?_;go_step|fail)
  go_loopg [10,11] (b-(a+1)) (fun gk iv jv w=>∃(i j:Nat),gk+i=j∧a+1≤i∧j≤b∧iv= .int .i64 i∧jv= .int .i64 j∧(∀x,a+1≤x→x<i→wk P x≤wk P a)∧(∀x,j≤x→x<b→wk P a≤wk P x)∧St W w (BG g n c P::rs'))
  case atStart=>exact ⟨a+1,b,by omega,by omega,by omega,rfl,rfl,fun x h1 h2=>by omega,fun x h1 h2=>by omega,hS⟩
  case round=>
   clear hS
   obtain ⟨i,j,hk,hi,hj,rfl,rfl,hlo,hhi,hS⟩:=hrel
   have HLO:=AD hlo
   have HHI:=AD hhi
   clear hlo hhi
   by_cases hlt:i<j
   ·obtain ⟨h,hh⟩:∃h,h=(i+j)/2:=⟨_,rfl⟩
    obtain ⟨v,hv⟩:∃v,F9 (AN P h).w (AN P a).w=v:=⟨_,rfl⟩
    have hv2:=EF (AN P h).w (AN P a).w
    rw [hv] at hv2
    have HV:=AD hv
    have HV2:=AD hv2
    clear hv hv2
    repeat' (first
     | (refine AM 36 ?_);(refine AR (.int _ (((i+j:Nat):Int))) (V.as (V.addI rfl rfl (by omega)) (by omega)) (by kernel_rfl) ?_;go_step)|refine Pe 38 ?_|refine X0 ?_|refine X2 33 ?_|refine On 37 ?_|refine Om 39 ?_|refine AF ?_;go_step|fail)
    refine AT [9] (fun w=>St W w (BG g n c P::rs')) AA ?_
    replace hS:=hS.drew
    focus
     refine Ab 0 ?_
     refine Ab 1 ?_
     refine Ab 2 ?_
     refine Y0 3 ?_
     refine Y2 4 [9,10] ?_
     refine Ab 5 ?_
     refine Ab 6 ?_
     refine Y0 7 ?_
     refine Y2 8 [9,10] ?_
     refine CC 9 ?_
     refine BT (f:=74) rfl rfl Tryz.call74 (Bl _ (AN P h) (AN P a)) ?_;rintro e w ⟨rfl,hE⟩;replace hS:=hS.ext hE;clear hE;rw [HV.out];refine ⟨_,rfl,?_⟩
     refine ⟨fun h=>absurd (by decide) h,?_⟩
     refine AJ ?_
     go_step
     refine DH 10 CY (V.lss rfl rfl) ?_;go_step
     refine AL AA ?_ _
    by_cases hc:v<0
    ·repeat' (first
      | refine Pd 52 ?_|refine X0 ?_|refine AF ?_;go_step|fail)
     go_roundg (j-(h+1))
     case measure=>omega
     case rel=>
      refine ⟨h+1,j,by omega,by omega,by omega,by go_num,rfl,fun x k1 k2=>?_,HHI.out,hS⟩
      have:=HA2.out x h k1 (by omega) (by omega)
      have:=HV2.out.1 hc
      show (AN P x).w≤(AN P a).w
      omega
    repeat' (first
     | refine X0 ?_|refine AF ?_;go_step|fail)
    go_roundg (h-i)
    case measure=>omega
    case rel=>
     refine ⟨i,h,by omega,by omega,by omega,rfl,by go_num,HLO.out,fun x k1 k2=>?_,hS⟩
     have:=HA2.out h x (by omega) k1 (by omega)
     have:=HV2.out
     show (AN P a).w≤(AN P x).w
     omega
   obtain rfl:i=j:=by omega
   obtain ⟨p,rfl⟩:∃p,i=p+1:=⟨i-1,by omega⟩
   repeat' (first
    | refine X0 ?_|refine X2 33 ?_|refine AF ?_;go_step|fail)
   repeat' (first
    | refine AF ?_;go_step|fail)
   go_loopg [13] (p-a) (fun gk kv w=>∃(k:Nat) (Q:List Bu),gk+k=p∧a≤k∧kv= .int .i64 k∧Mw a k P Q∧Rg a b P Q∧St W w (BG g n c Q::rs'))
   case atStart=>exact ⟨a,P,by omega,by omega,rfl,Mw.refl a P,Rg.refl a b P,hS⟩
   case round=>
    clear hS
    obtain ⟨k,Q,hk2,hak,rfl,hU,hR,hS⟩:=hrel
    have HU:=AD hU
    have HR:=AD hR
    clear hU hR
    by_cases hlt2:k<p
    ·repeat' (first
      | (refine AM 57 ?_);(refine AR (.int _ (((p:Nat):Int))) (V.as (V.subI rfl rfl (by omega)) (by omega)) (by kernel_rfl) ?_;go_step)|refine X1 ?_|refine X2 58 ?_|refine AF ?_;go_step|fail)
     refine AT [15,17] (fun w=>St W w (BG g n c Q::rs')) AA ?_
     replace hS:=hS.drew
     focus
      refine Ab 0 ?_
      refine Ab 1 ?_
      refine Ab 2 ?_
      refine Ab 3 ?_
      (refine Bs 4 (.int _ (((k+1:Nat):Int))) Cy AA AA AA Ei (V.as (V.addI rfl rfl (by omega)) (by omega)) AA ?_)
      go_step
      refine Ab 5 ?_
      refine Ab 6 ?_
      (refine Bs 7 (.int _ (((k+1:Nat):Int))) Cy AA AA AA Ei (V.as (V.addI rfl rfl (by omega)) (by omega)) AA ?_)
      go_step
      refine Y0 8 ?_
      refine Y2 9 [14,15,16,17] ?_
      refine Ab 10 ?_
      refine Ab 11 ?_
      refine Y0 12 ?_
      refine Y2 13 [14,15,16,17] ?_
      refine Y0 14 ?_
      refine CC 15 ?_
      refine Y5 ?_;clear hS;intro w hS
      refine Y0 16 ?_
      refine CC 17 ?_
      refine Y5 ?_;clear hS;intro w hS
      refine AL AA ?_ _
     repeat' (first
      | refine Oy 60 ?_|refine X0 ?_|refine AF ?_;go_step|fail)
     go_roundg (gk-1)
     case measure=>omega
     case rel=>exact ⟨k+1,Ip Q k (k+1),by omega,by omega,by go_num,HU.out.step (by omega) (by omega),HR.out.trans (Hj _ _ _ _ _ (by omega) (by omega) (by omega) (by omega) (by rw [HR.out.len];omega)),hS⟩
    obtain rfl:k=p:=by omega
    repeat' (first
     | (refine AM 57 ?_);(refine AR (.int _ (((k:Nat):Int))) (V.as (V.subI rfl rfl (by omega)) (by omega)) (by kernel_rfl) ?_;go_step)|refine X1 ?_|refine X2 58 ?_|refine AF ?_;go_step|fail)
    refine bodyPost_ret (results_none rfl _ _ _) rfl ?_
    refine ⟨rfl,Q,HU.out.asc HA2.out hak (by omega) (fun h=>HLO.out k (by omega) (by omega)) (fun h=>HHI.out (k+1) (Nat.le_refl _) h),HR.out,hS⟩
 by_cases h2:b-m=1
 ·obtain rfl:b=m+1:=by omega
  go_enter Tryz.func112,Tryz.ntmps112
  repeat' (first
   | (refine AM 27 ?_);(refine AR (.int _ (((m-a:Nat):Int))) (V.as (V.subI rfl rfl (by omega)) (by omega)) (by kernel_rfl) ?_;go_step)|refine X1 ?_|refine K9 28 ?_|refine AF ?_;go_step|fail)
  repeat' (first
   | (refine AM 79 ?_);(refine AR (.int _ (1)) (V.as (V.subI rfl rfl (by omega)) (by omega)) (by kernel_rfl) ?_;go_step)|refine X0 ?_|refine K9 80 ?_|refine AF ?_;go_step|fail)
  go_loopg [14,15] (m-a) (fun gk iv jv w=>∃(i j:Nat),gk+i=j∧a≤i∧j≤m∧iv= .int .i64 i∧jv= .int .i64 j∧(∀x,a≤x→x<i→wk P x≤wk P m)∧(∀x,j≤x→x<m→wk P m≤wk P x)∧St W w (BG g n c P::rs'))
  case atStart=>exact ⟨a,m,by omega,by omega,by omega,rfl,rfl,fun x h1 h2=>by omega,fun x h1 h2=>by omega,hS⟩
  case round=>
   clear hS
   obtain ⟨i,j,hk,hi,hj,rfl,rfl,hlo,hhi,hS⟩:=hrel
   have HLO:=AD hlo
   have HHI:=AD hhi
   clear hlo hhi
   by_cases hlt:i<j
   ·obtain ⟨h,hh⟩:∃h,h=(i+j)/2:=⟨_,rfl⟩
    obtain ⟨v,hv⟩:∃v,F9 (AN P m).w (AN P h).w=v:=⟨_,rfl⟩
    have hv2:=EF (AN P m).w (AN P h).w
    rw [hv] at hv2
    have HV:=AD hv
    have HV2:=AD hv2
    clear hv hv2
    repeat' (first
     | (refine AM 88 ?_);(refine AR (.int _ (((i+j:Nat):Int))) (V.as (V.addI rfl rfl (by omega)) (by omega)) (by kernel_rfl) ?_;go_step)|refine Pe 90 ?_|refine X0 ?_|refine X2 85 ?_|refine On 89 ?_|refine Om 91 ?_|refine AF ?_;go_step|fail)
    refine AT [9] (fun w=>St W w (BG g n c P::rs')) AA ?_
    replace hS:=hS.drew
    focus
     refine Ab 0 ?_
     refine Ab 1 ?_
     refine Ab 2 ?_
     refine Y0 3 ?_
     refine Y2 4 [9,10,11] ?_
     refine Ab 5 ?_
     refine Ab 6 ?_
     refine Y0 7 ?_
     refine Y2 8 [9,10,11] ?_
     refine CC 9 ?_
     refine BT (f:=74) rfl rfl Tryz.call74 (Bl _ (AN P m) (AN P h)) ?_;rintro e w ⟨rfl,hE⟩;replace hS:=hS.ext hE;clear hE;rw [HV.out];refine ⟨_,rfl,?_⟩
     refine ⟨fun h=>absurd (by decide) h,?_⟩
     refine AJ ?_
     go_step
     refine DH 10 CY (V.lss rfl rfl) ?_;go_step
     refine DH 11 CY (V.notD rfl) ?_;go_step
     refine AL AA ?_ _
    by_cases hc:v<0
    ·repeat' (first
      | refine X0 ?_|refine AF ?_;go_step|fail)
     go_roundg (h-i)
     case measure=>omega
     case rel=>
      refine ⟨i,h,by omega,by omega,by omega,rfl,by go_num,HLO.out,fun x k1 k2=>?_,hS⟩
      have:=HA1.out h x (by omega) k1 (by omega)
      have:=HV2.out.1 hc
      show (AN P m).w≤(AN P x).w
      omega
    repeat' (first
     | refine Pd 105 ?_|refine X0 ?_|refine AF ?_;go_step|fail)
    go_roundg (j-(h+1))
    case measure=>omega
    case rel=>
     refine ⟨h+1,j,by omega,by omega,by omega,by go_num,rfl,fun x k1 k2=>?_,HHI.out,hS⟩
     have:=HA1.out x h k1 (by omega) (by omega)
     have:=HV2.out
     show (AN P x).w≤(AN P m).w
     omega
   obtain rfl:i=j:=by omega
   repeat' (first
    | refine X0 ?_|refine X2 85 ?_|refine AF ?_;go_step|fail)
   repeat' (first
    | refine AF ?_;go_step|fail)
   go_loopg [17] (m-i) (fun gk kv w=>∃(k:Nat) (Q:List Bu),gk+i=k∧k≤m∧kv= .int .i64 k∧Dn m k P Q∧Rg a (m+1) P Q∧St W w (BG g n c Q::rs'))
   case atStart=>exact ⟨m,P,by omega,by omega,rfl,Dn.refl m P,Rg.refl a _ P,hS⟩
   case round=>
    clear hS
    obtain ⟨k,Q,hk2,hkm,rfl,hU,hR,hS⟩:=hrel
    have HU:=AD hU
    have HR:=AD hR
    clear hU hR
    by_cases hlt2:i<k
    ·obtain ⟨q,rfl⟩:∃q,k=q+1:=⟨k-1,by omega⟩
     repeat' (first
      | refine X1 ?_|refine J2 110 ?_|refine AF ?_;go_step|fail)
     refine AT [15,17] (fun w=>St W w (BG g n c Q::rs')) AA ?_
     replace hS:=hS.drew
     focus
      refine Ab 0 ?_
      refine Ab 1 ?_
      refine Ab 2 ?_
      refine Ab 3 ?_
      (refine Bs 4 (.int _ (((q:Nat):Int))) Cy AA AA AA Ei (V.as (V.subI rfl rfl (by omega)) (by omega)) AA ?_)
      go_step
      refine Ab 5 ?_
      refine Ab 6 ?_
      (refine Bs 7 (.int _ (((q:Nat):Int))) Cy AA AA AA Ei (V.as (V.subI rfl rfl (by omega)) (by omega)) AA ?_)
      go_step
      refine Y0 8 ?_
      refine Y2 9 [14,15,16,17] ?_
      refine Ab 10 ?_
      refine Ab 11 ?_
      refine Y0 12 ?_
      refine Y2 13 [14,15,16,17] ?_
      refine Y0 14 ?_
      refine CC 15 ?_
      refine Y5 ?_;clear hS;intro w hS
      refine Y0 16 ?_
      refine CC 17 ?_
      refine Y5 ?_;clear hS;intro w hS
      refine AL AA ?_ _
     repeat' (first
      | (refine AM 112 ?_);(refine AR (.int _ (((q:Nat):Int))) (V.as (V.subI rfl rfl (by omega)) (by omega)) (by kernel_rfl) ?_;go_step)|refine X0 ?_|refine AF ?_;go_step|fail)
     go_roundg (gk-1)
     case measure=>omega
     case rel=>exact ⟨q,Ip Q (q+1) q,by omega,by omega,by go_num,HU.out.step (by omega) (by omega) (by omega),HR.out.trans (Hj _ _ _ _ _ (by omega) (by omega) (by omega) (by omega) (by rw [HR.out.len];omega)),hS⟩
    obtain rfl:k=i:=by omega
    repeat' (first
     | refine X1 ?_|refine J2 110 ?_|refine AF ?_;go_step|fail)
    refine bodyPost_ret (results_none rfl _ _ _) rfl ?_
    refine ⟨rfl,Q,HU.out.asc HA1.out hi (by omega) (fun h=>HLO.out (k-1) (by omega) (by omega)) (fun h=>HHI.out k (Nat.le_refl _) h),HR.out,hS⟩
 obtain ⟨mid,hmid⟩:∃mid,mid=(a+b)/2:=⟨_,rfl⟩
 obtain ⟨T,hT⟩:∃T,T=mid+m:=⟨_,rfl⟩
 obtain ⟨s0,hs0⟩:∃s0,s0=if mid<m then T-b else a:=⟨_,rfl⟩
 obtain ⟨r0,hr0⟩:∃r0,r0=if mid<m then mid else m:=⟨_,rfl⟩
 have hs0a:mid<m→s0=T-b:=fun h=>by rw [hs0,if_pos h]
 have hs0b:¬mid<m→s0=a:=fun h=>by rw [hs0,if_neg h]
 have hr0a:mid<m→r0=mid:=fun h=>by rw [hr0,if_pos h]
 have hr0b:¬mid<m→r0=m:=fun h=>by rw [hr0,if_neg h]
 clear hs0 hr0
 have hF:s0≤r0∧a≤s0∧r0≤mid∧r0≤m∧(∀st,s0≤st→st≤r0→m≤T-st∧T-st≤b∧st≤T):=by
  by_cases hc:mid<m
  ·have:=hs0a hc;have:=hr0a hc
   exact ⟨by omega,by omega,by omega,by omega,fun st k1 k2=>by omega⟩
  have:=hs0b hc;have:=hr0b hc
  exact ⟨by omega,by omega,by omega,by omega,fun st k1 k2=>by omega⟩
 obtain ⟨f1,f2,f3,f4,f5⟩:=hF
 have F5:=AD f5
 clear f5
 have HS0a:=AD hs0a
 have HS0b:=AD hs0b
 have HR0a:=AD hr0a
 have HR0b:=AD hr0b
 clear hs0a hs0b hr0a hr0b
 obtain ⟨d1,hd1⟩:∃d,d=m-a:=⟨_,rfl⟩
 obtain ⟨d2,hd2⟩:∃d,d=b-m:=⟨_,rfl⟩
 go_enter Tryz.func112,Tryz.ntmps112
 repeat' (first
  | (refine AM 27 ?_);(refine AR (.int _ (((d1:Nat):Int))) (V.as (V.subI rfl rfl (by omega)) (by omega)) (by kernel_rfl) ?_;go_step)|refine X1 ?_|refine K9 28 ?_|refine AF ?_;go_step|fail)
 repeat' (first
  | (refine AM 79 ?_);(refine AR (.int _ (((d2:Nat):Int))) (V.as (V.subI rfl rfl (by omega)) (by omega)) (by kernel_rfl) ?_;go_step)|refine X1 ?_|refine K9 80 ?_|refine AF ?_;go_step|fail)
 have h1':a+2≤m:=by omega
 have h2':m+2≤b:=by omega
 clear h1 h2 hd1 hd2
 by_cases hc:mid<m
 ·have e1:=HS0a.out hc
  have e2:=HR0a.out hc
  repeat' (first
   | (refine AM 131 ?_);(refine AR (.int _ (((a+b:Nat):Int))) (V.as (V.addI rfl rfl (by omega)) (by omega)) (by kernel_rfl) ?_;go_step)|(refine AM 133 ?_);(refine AR (.int _ (((mid:Nat):Int))) (V.as (V.shr rfl rfl BW (by omega) rfl) (by omega)) (by kernel_rfl) ?_;go_step)|(refine AM 137 ?_);(refine AR (.int _ (((T:Nat):Int))) (V.as (V.addI rfl rfl (by omega)) (by omega)) (by kernel_rfl) ?_;go_step)|(refine AM 143 ?_);(refine AR (.int _ (((s0:Nat):Int))) (V.as (V.subI rfl rfl (by omega)) (by omega)) (by kernel_rfl) ?_;go_step)|refine X0 ?_|refine On 132 ?_|refine Om 134 ?_|refine J2 140 ?_|refine AF ?_;go_step|fail)
  repeat' (first
   | (refine AM 148 ?_);(refine AR (.int _ (((T-1:Nat):Int))) (V.as (V.subI rfl rfl (by omega)) (by omega)) (by kernel_rfl) ?_;go_step)|refine X7 ?_|refine AF ?_;go_step|fail)
  go_loopg [20,21] (r0-s0) (fun gk iv jv w=>∃(st r:Nat),gk+st=r∧s0≤st∧r≤r0∧iv= .int .i64 st∧jv= .int .i64 r∧(s0<st→wk P (st-1)≤wk P (T-st))∧(r<r0→wk P (T-1-r)≤wk P r)∧St W w (BG g n c P::rs'))
  case atStart=>exact ⟨s0,r0,by omega,by omega,by omega,by first|rfl|rw [e1],by first|rfl|rw [e2],fun h=>by omega,fun h=>by omega,hS⟩
  case round=>
   clear hS
   obtain ⟨st,r,hk,hst,hr,rfl,rfl,hlo,hhi,hS⟩:=hrel
   have HLO:=AD hlo
   have HHI:=AD hhi
   clear hlo hhi
   have f5:=F5.out st hst (by omega)
   by_cases hlt:st<r
   ·obtain ⟨h,hh⟩:∃h,h=(st+r)/2:=⟨_,rfl⟩
    obtain ⟨y,hy⟩:∃y,y=T-1-h:=⟨_,rfl⟩
    have f6:=F5.out (h+1) (by omega) (by omega)
    obtain ⟨v,hv⟩:∃v,F9 (AN P y).w (AN P h).w=v:=⟨_,rfl⟩
    have hv2:=EF (AN P y).w (AN P h).w
    rw [hv] at hv2
    have HV:=AD hv
    have HV2:=AD hv2
    clear hv hv2
    repeat' (first
     | (refine AM 154 ?_);(refine AR (.int _ (((st+r:Nat):Int))) (V.as (V.addI rfl rfl (by omega)) (by omega)) (by kernel_rfl) ?_;go_step)|refine Pe 156 ?_|refine X0 ?_|refine X2 151 ?_|refine On 155 ?_|refine Om 157 ?_|refine AF ?_;go_step|fail)
    refine AT [11] (fun w=>St W w (BG g n c P::rs')) AA ?_
    replace hS:=hS.drew
    focus
     refine Ab 0 ?_
     refine Ab 1 ?_
     refine Ab 2 ?_
     refine Ab 3 ?_
     (refine Bs 4 (.int _ (((y:Nat):Int))) Cy AA AA AA Ei (V.as (V.subI rfl rfl (by omega)) (by omega)) AA ?_)
     go_step
     refine Y0 5 ?_
     refine Y2 6 [11,12,13] ?_
     refine Ab 7 ?_
     refine Ab 8 ?_
     refine Y0 9 ?_
     refine Y2 10 [11,12,13] ?_
     refine CC 11 ?_
     refine BT (f:=74) rfl rfl Tryz.call74 (Bl _ (AN P y) (AN P h)) ?_;rintro e w ⟨rfl,hE⟩;replace hS:=hS.ext hE;clear hE;rw [HV.out];refine ⟨_,rfl,?_⟩
     refine ⟨fun h=>absurd (by decide) h,?_⟩
     refine AJ ?_
     go_step
     refine DH 12 CY (V.lss rfl rfl) ?_;go_step
     refine DH 13 CY (V.notD rfl) ?_;go_step
     refine AL AA ?_ _
    by_cases hc2:v<0
    ·repeat' (first
      | refine X0 ?_|refine AF ?_;go_step|fail)
     go_roundg (h-st)
     case measure=>omega
     case rel=>
      refine ⟨st,h,by omega,by omega,by omega,rfl,by go_num,HLO.out,fun k1=>?_,hS⟩
      have:=HV2.out.1 hc2
      rw [←hy]
      exact Int.le_of_lt this
    repeat' (first
     | refine Pd 173 ?_|refine X0 ?_|refine AF ?_;go_step|fail)
    go_roundg (r-(h+1))
    case measure=>omega
    case rel=>
     refine ⟨h+1,r,by omega,by omega,by omega,by go_num,rfl,fun k1=>?_,HHI.out,hS⟩
     have:=HV2.out
     rw [show T-(h+1)=y by omega,Nat.add_sub_cancel]
     show (AN P h).w≤(AN P y).w
     omega
   obtain rfl:st=r:=by omega
   obtain ⟨en,hen⟩:∃en,en=T-st:=⟨_,rfl⟩
   have HLO2:Hid (a<st→m≤en→en<b→wk P (st-1)≤wk P en):=fun k1 k2 k3=>by
    rw [hen];exact HLO.out (by omega)
   have HHI2:Hid (m<en→st<m→wk P (en-1)≤wk P st):=fun k1 k2=>by
    rw [show en-1=T-1-st by omega];exact HHI.out (by omega)
   clear HLO HHI
   repeat' (first
    | refine X1 ?_|refine X2 151 ?_|refine AF ?_;go_step|fail)
   by_cases hrot:st<m∧m<en
   ·have hrot1:=hrot.1
    have hrot2:=hrot.2
    repeat' (first
     | refine Pc 177 ?_|(refine Av 119 ?_);refine Aw AA Tryz.call119 (Fj W _ _ rs' g n c st m en P hS AK.head hrot1 hrot2 (by omega) hn Oo) ?_;rintro e w ⟨rfl,Q,hQ,hS2⟩;replace hS:=hS2;clear hS2;refine A9 ?_;go_step|refine X0 ?_|refine X6 ?_|refine X4 180 ?_ ?_<;>intro hB<;>(try exact Ak)<;>go_step|refine X2 184 ?_|refine AF ?_;go_step|fail)
    obtain ⟨s1,s2,s3,s4,hx⟩:=De HA1.out HA2.out ham hmb hmid (show en=mid+m-st by omega) (by omega) (by omega) (by omega) (by omega) (by omega) HLO2.out HHI2.out hQ
    have hQr:=hQ.rg (show st≤m by omega) (show m≤en by omega)
    have hQl:=hQr.len
    have HQR:=AD (hQr.wide (show a≤st by omega) (show en≤b by omega) (by omega) (by omega))
    have HX:=AD hx
    have S1:=AD s1
    have S2:=AD s2
    have S3:=AD s3
    have S4:=AD s4
    have g1:a≤st:=by omega
    have g2:st≤mid:=by omega
    have g3:mid≤en:=by omega
    have g4:en≤b:=by omega
    have g5:mid-a≤N:=by omega
    have g6:b-mid≤N:=by omega
    have g7:a<mid:=by omega
    have g8:mid<b:=by omega
    have hQn:Q.length=n:=by omega
    clear hx s1 s2 s3 s4 hQ hQr HLO2 HHI2 HA1 HA2 F5 HS0a HS0b HR0a HR0b hen hlt hk hst hr f5 f1 f2 f3 f4 hT hmid e1 e2 hc h1' h2' hN hrot hQl hPl hp ham hmb
    by_cases hl:a<st∧st<mid
    ·obtain ⟨hl1,hl2⟩:=hl
     have hb2:mid≤n:=by omega
     have HC:=AD (fun (w:World)(hS:St W w (BG g n c Q::rs'))=>IH.out W w (BG g n c Q::rs') rs' g n c a st mid Q g5 hS AK.head hl1 hl2 hb2 hn S1.out S2.out)
     repeat' (first
      | (refine Av 112 ?_);refine Aw AA Tryz.call112 (HC.out _ hS) ?_;rintro e w ⟨rfl,R,hR1,hR2,hS2⟩;replace hS:=hS2;clear hS2;refine A9 ?_;go_step|refine X1 ?_|refine X6 ?_|refine X4 194 ?_ ?_<;>intro hB<;>(try exact Ak)<;>go_step|refine X2 198 ?_|refine AF ?_;go_step|fail)
     have S5:=AD (S3.out.same (Q:=R) fun x k1 k2=>hR2.out x (by omega))
     have S6:=AD (S4.out.same (Q:=R) fun x k1 k2=>hR2.out x (by omega))
     have R1:=AD hR1
     have R2:=AD hR2
     clear hR1 hR2
     by_cases hr:mid<en∧en<b
     ·obtain ⟨hr1,hr2⟩:=hr
      have HC:=AD (fun (w:World)(hS:St W w (BG g n c R::rs'))=>IH.out W w (BG g n c R::rs') rs' g n c mid en b R g6 hS AK.head hr1 hr2 hb hn S5.out S6.out)
      repeat' (first
       | (refine Av 112 ?_);refine Aw AA Tryz.call112 (HC.out _ hS) ?_;rintro e w ⟨rfl,Z,hZ1,hZ2,hS2⟩;replace hS:=hS2;clear hS2;refine A9 ?_;go_step|refine X1 ?_|refine X6 ?_|refine X4 208 ?_ ?_<;>intro hB<;>(try exact Ak)<;>go_step|refine X2 212 ?_|refine AF ?_;go_step|fail)
      go_end0
      obtain ⟨j1,j2⟩:=Ap (show a≤mid by omega) (show mid≤b by omega) (show b≤Q.length by rw [hQn];exact hb) HX.out R2.out hZ2 R1.out hZ1
      exact ⟨rfl,Z,j1,HQR.out.trans j2,hS⟩
     have hZ1:B7 Bu.w mid b R:=by
      by_cases c1:mid<en
      ·exact S5.out.sub (Nat.le_refl _) (by omega)
      exact S6.out.sub (by omega) (Nat.le_refl _)
     repeat' (first
      | refine X1 ?_|refine X6 ?_|refine X4 208 ?_ ?_<;>intro hB<;>(try exact Ak)<;>go_step|refine X2 212 ?_|refine AF ?_;go_step|fail)
     all_goals
      go_end0
      obtain ⟨j1,j2⟩:=Ap (show a≤mid by omega) (show mid≤b by omega) (show b≤Q.length by rw [hQn];exact hb) HX.out R2.out (Rg.refl _ _ _) R1.out hZ1
      exact ⟨rfl,R,j1,HQR.out.trans j2,hS⟩
    obtain ⟨R,hRe⟩:∃R,R=Q:=⟨Q,rfl⟩
    have hR2:Rg a mid Q R:=by rw [hRe];exact Rg.refl _ _ _
    have hR1:B7 Bu.w a mid R:=by
     rw [hRe]
     by_cases c1:a<st
     ·exact S1.out.sub (Nat.le_refl _) (by omega)
     exact S2.out.sub (by omega) (Nat.le_refl _)
    rw [←hRe] at hS
    repeat' (first
     | go_skip|((with_reducible refine F2 ?_);(first|go_big_want|go_step);go_step)|((with_reducible refine Al _ (.pick _ _ _) ?_);first|(refine Ag rfl AA ?_;go_step)|(refine AZ rfl AA ?_;go_step))|((refine AM 194 ?_);(refine Bz _ (V.lss rfl rfl) AA (fun hB=>?_) (fun hB=>?_)<;>(try exact Ak)<;>go_step))|((refine AM 198 ?_);(refine AY AA (V.lss rfl rfl) ?_;go_step))|(refine AF ?_;go_step)|fail)
    all_goals
     have S5:=AD (S3.out.same (Q:=R) fun x k1 k2=>hR2.out x (by omega))
     have S6:=AD (S4.out.same (Q:=R) fun x k1 k2=>hR2.out x (by omega))
     have R1:=AD hR1
     have R2:=AD hR2
     clear hR1 hR2
     by_cases hr:mid<en∧en<b
     ·obtain ⟨hr1,hr2⟩:=hr
      have HC:=AD (fun (w:World)(hS:St W w (BG g n c R::rs'))=>IH.out W w (BG g n c R::rs') rs' g n c mid en b R g6 hS AK.head hr1 hr2 hb hn S5.out S6.out)
      repeat' (first
       | (refine Av 112 ?_);refine Aw AA Tryz.call112 (HC.out _ hS) ?_;rintro e w ⟨rfl,Z,hZ1,hZ2,hS2⟩;replace hS:=hS2;clear hS2;refine A9 ?_;go_step|refine X1 ?_|refine X6 ?_|refine X4 208 ?_ ?_<;>intro hB<;>(try exact Ak)<;>go_step|refine X2 212 ?_|refine AF ?_;go_step|fail)
      go_end0
      obtain ⟨j1,j2⟩:=Ap (show a≤mid by omega) (show mid≤b by omega) (show b≤Q.length by rw [hQn];exact hb) HX.out R2.out hZ2 R1.out hZ1
      exact ⟨rfl,Z,j1,HQR.out.trans j2,hS⟩
     have hZ1:B7 Bu.w mid b R:=by
      by_cases c1:mid<en
      ·exact S5.out.sub (Nat.le_refl _) (by omega)
      exact S6.out.sub (by omega) (Nat.le_refl _)
     repeat' (first
      | refine X1 ?_|refine X6 ?_|refine X4 208 ?_ ?_<;>intro hB<;>(try exact Ak)<;>go_step|refine X2 212 ?_|refine AF ?_;go_step|fail)
     all_goals
      go_end0
      obtain ⟨j1,j2⟩:=Ap (show a≤mid by omega) (show mid≤b by omega) (show b≤Q.length by rw [hQn];exact hb) HX.out R2.out (Rg.refl _ _ _) R1.out hZ1
      exact ⟨rfl,R,j1,HQR.out.trans j2,hS⟩
   obtain ⟨Q,hQe,hQ⟩:∃Q,Q=P∧Hu st m en P Q:=⟨P,rfl,Hu.triv (by omega) (by omega) (by omega) (by omega)⟩
   rw [←hQe] at hS
   repeat' (first
    | refine Pc 177 ?_|refine X0 ?_|refine X6 ?_|refine X4 180 ?_ ?_<;>intro hB<;>(try exact Ak)<;>go_step|refine X2 184 ?_|refine AF ?_;go_step|fail)
   all_goals
    obtain ⟨s1,s2,s3,s4,hx⟩:=De HA1.out HA2.out ham hmb hmid (show en=mid+m-st by omega) (by omega) (by omega) (by omega) (by omega) (by omega) HLO2.out HHI2.out hQ
    have hQr:=hQ.rg (show st≤m by omega) (show m≤en by omega)
    have hQl:=hQr.len
    have HQR:=AD (hQr.wide (show a≤st by omega) (show en≤b by omega) (by omega) (by omega))
    have HX:=AD hx
    have S1:=AD s1
    have S2:=AD s2
    have S3:=AD s3
    have S4:=AD s4
    have g1:a≤st:=by omega
    have g2:st≤mid:=by omega
    have g3:mid≤en:=by omega
    have g4:en≤b:=by omega
    have g5:mid-a≤N:=by omega
    have g6:b-mid≤N:=by omega
    have g7:a<mid:=by omega
    have g8:mid<b:=by omega
    have hQn:Q.length=n:=by omega
    clear hx s1 s2 s3 s4 hQ hQr HLO2 HHI2 HA1 HA2 F5 HS0a HS0b HR0a HR0b hen hlt hk hst hr f5 f1 f2 f3 f4 hT hmid e1 e2 hc h1' h2' hN hrot hQl hPl hp ham hmb
    by_cases hl:a<st∧st<mid
    ·obtain ⟨hl1,hl2⟩:=hl
     have hb2:mid≤n:=by omega
     have HC:=AD (fun (w:World)(hS:St W w (BG g n c Q::rs'))=>IH.out W w (BG g n c Q::rs') rs' g n c a st mid Q g5 hS AK.head hl1 hl2 hb2 hn S1.out S2.out)
     repeat' (first
      | (refine Av 112 ?_);refine Aw AA Tryz.call112 (HC.out _ hS) ?_;rintro e w ⟨rfl,R,hR1,hR2,hS2⟩;replace hS:=hS2;clear hS2;refine A9 ?_;go_step|refine X1 ?_|refine X6 ?_|refine X4 194 ?_ ?_<;>intro hB<;>(try exact Ak)<;>go_step|refine X2 198 ?_|refine AF ?_;go_step|fail)
     have S5:=AD (S3.out.same (Q:=R) fun x k1 k2=>hR2.out x (by omega))
     have S6:=AD (S4.out.same (Q:=R) fun x k1 k2=>hR2.out x (by omega))
     have R1:=AD hR1
     have R2:=AD hR2
     clear hR1 hR2
     by_cases hr:mid<en∧en<b
     ·obtain ⟨hr1,hr2⟩:=hr
      have HC:=AD (fun (w:World)(hS:St W w (BG g n c R::rs'))=>IH.out W w (BG g n c R::rs') rs' g n c mid en b R g6 hS AK.head hr1 hr2 hb hn S5.out S6.out)
      repeat' (first
       | (refine Av 112 ?_);refine Aw AA Tryz.call112 (HC.out _ hS) ?_;rintro e w ⟨rfl,Z,hZ1,hZ2,hS2⟩;replace hS:=hS2;clear hS2;refine A9 ?_;go_step|refine X1 ?_|refine X6 ?_|refine X4 208 ?_ ?_<;>intro hB<;>(try exact Ak)<;>go_step|refine X2 212 ?_|refine AF ?_;go_step|fail)
      go_end0
      obtain ⟨j1,j2⟩:=Ap (show a≤mid by omega) (show mid≤b by omega) (show b≤Q.length by rw [hQn];exact hb) HX.out R2.out hZ2 R1.out hZ1
      exact ⟨rfl,Z,j1,HQR.out.trans j2,hS⟩
     have hZ1:B7 Bu.w mid b R:=by
      by_cases c1:mid<en
      ·exact S5.out.sub (Nat.le_refl _) (by omega)
      exact S6.out.sub (by omega) (Nat.le_refl _)
     repeat' (first
      | go_skip|((with_reducible refine F2 ?_);(first|go_big_want|go_step);go_step)|((with_reducible refine Al _ (.pick _ _ _) ?_);first|(refine Ag rfl AA ?_;go_step)|(refine AZ rfl AA ?_;go_step))|((refine AM 208 ?_);(refine Bz _ (V.lss rfl rfl) AA (fun hB=>?_) (fun hB=>?_)<;>(try exact Ak)<;>go_step))|((refine AM 212 ?_);(refine AY AA (V.lss rfl rfl) ?_;go_step))|(refine AF ?_;go_step)|fail)
     all_goals
      go_end0
      obtain ⟨j1,j2⟩:=Ap (show a≤mid by omega) (show mid≤b by omega) (show b≤Q.length by rw [hQn];exact hb) HX.out R2.out (Rg.refl _ _ _) R1.out hZ1
      exact ⟨rfl,R,j1,HQR.out.trans j2,hS⟩
    obtain ⟨R,hRe⟩:∃R,R=Q:=⟨Q,rfl⟩
    have hR2:Rg a mid Q R:=by rw [hRe];exact Rg.refl _ _ _
    have hR1:B7 Bu.w a mid R:=by
     rw [hRe]
     by_cases c1:a<st
     ·exact S1.out.sub (Nat.le_refl _) (by omega)
     exact S2.out.sub (by omega) (Nat.le_refl _)
    rw [←hRe] at hS
    repeat' (first
     | go_skip|((with_reducible refine F2 ?_);(first|go_big_want|go_step);go_step)|((with_reducible refine Al _ (.pick _ _ _) ?_);first|(refine Ag rfl AA ?_;go_step)|(refine AZ rfl AA ?_;go_step))|((refine AM 194 ?_);(refine Bz _ (V.lss rfl rfl) AA (fun hB=>?_) (fun hB=>?_)<;>(try exact Ak)<;>go_step))|((refine AM 198 ?_);(refine AY AA (V.lss rfl rfl) ?_;go_step))|(refine AF ?_;go_step)|fail)
    all_goals
     have S5:=AD (S3.out.same (Q:=R) fun x k1 k2=>hR2.out x (by omega))
     have S6:=AD (S4.out.same (Q:=R) fun x k1 k2=>hR2.out x (by omega))
     have R1:=AD hR1
     have R2:=AD hR2
     clear hR1 hR2
     by_cases hr:mid<en∧en<b
     ·obtain ⟨hr1,hr2⟩:=hr
      have HC:=AD (fun (w:World)(hS:St W w (BG g n c R::rs'))=>IH.out W w (BG g n c R::rs') rs' g n c mid en b R g6 hS AK.head hr1 hr2 hb hn S5.out S6.out)
      repeat' (first
       | (refine Av 112 ?_);refine Aw AA Tryz.call112 (HC.out _ hS) ?_;rintro e w ⟨rfl,Z,hZ1,hZ2,hS2⟩;replace hS:=hS2;clear hS2;refine A9 ?_;go_step|refine X1 ?_|refine X6 ?_|refine X4 208 ?_ ?_<;>intro hB<;>(try exact Ak)<;>go_step|refine X2 212 ?_|refine AF ?_;go_step|fail)
      go_end0
      obtain ⟨j1,j2⟩:=Ap (show a≤mid by omega) (show mid≤b by omega) (show b≤Q.length by rw [hQn];exact hb) HX.out R2.out hZ2 R1.out hZ1
      exact ⟨rfl,Z,j1,HQR.out.trans j2,hS⟩
     have hZ1:B7 Bu.w mid b R:=by
      by_cases c1:mid<en
      ·exact S5.out.sub (Nat.le_refl _) (by omega)
      exact S6.out.sub (by omega) (Nat.le_refl _)
     repeat' (first
      | go_skip|((with_reducible refine F2 ?_);(first|go_big_want|go_step);go_step)|((with_reducible refine Al _ (.pick _ _ _) ?_);first|(refine Ag rfl AA ?_;go_step)|(refine AZ rfl AA ?_;go_step))|((refine AM 208 ?_);(refine Bz _ (V.lss rfl rfl) AA (fun hB=>?_) (fun hB=>?_)<;>(try exact Ak)<;>go_step))|((refine AM 212 ?_);(refine AY AA (V.lss rfl rfl) ?_;go_step))|(refine AF ?_;go_step)|fail)
     all_goals
      go_end0
      obtain ⟨j1,j2⟩:=Ap (show a≤mid by omega) (show mid≤b by omega) (show b≤Q.length by rw [hQn];exact hb) HX.out R2.out (Rg.refl _ _ _) R1.out hZ1
      exact ⟨rfl,R,j1,HQR.out.trans j2,hS⟩
 have e1:=HS0b.out hc
 have e2:=HR0b.out hc
 repeat' (first
  | (refine AM 131 ?_);(refine AR (.int _ (((a+b:Nat):Int))) (V.as (V.addI rfl rfl (by omega)) (by omega)) (by kernel_rfl) ?_;go_step)|(refine AM 133 ?_);(refine AR (.int _ (((mid:Nat):Int))) (V.as (V.shr rfl rfl BW (by omega) rfl) (by omega)) (by kernel_rfl) ?_;go_step)|(refine AM 137 ?_);(refine AR (.int _ (((T:Nat):Int))) (V.as (V.addI rfl rfl (by omega)) (by omega)) (by kernel_rfl) ?_;go_step)|refine X0 ?_|refine On 132 ?_|refine Om 134 ?_|refine J2 140 ?_|refine AF ?_;go_step|fail)
 repeat' (first
  | (refine AM 148 ?_);(refine AR (.int _ (((T-1:Nat):Int))) (V.as (V.subI rfl rfl (by omega)) (by omega)) (by kernel_rfl) ?_;go_step)|refine X7 ?_|refine AF ?_;go_step|fail)
 go_loopg [20,21] (r0-s0) (fun gk iv jv w=>∃(st r:Nat),gk+st=r∧s0≤st∧r≤r0∧iv= .int .i64 st∧jv= .int .i64 r∧(s0<st→wk P (st-1)≤wk P (T-st))∧(r<r0→wk P (T-1-r)≤wk P r)∧St W w (BG g n c P::rs'))
 case atStart=>exact ⟨s0,r0,by omega,by omega,by omega,by first|rfl|rw [e1],by first|rfl|rw [e2],fun h=>by omega,fun h=>by omega,hS⟩
 case round=>
  clear hS
  obtain ⟨st,r,hk,hst,hr,rfl,rfl,hlo,hhi,hS⟩:=hrel
  have HLO:=AD hlo
  have HHI:=AD hhi
  clear hlo hhi
  have f5:=F5.out st hst (by omega)
  by_cases hlt:st<r
  ·obtain ⟨h,hh⟩:∃h,h=(st+r)/2:=⟨_,rfl⟩
   obtain ⟨y,hy⟩:∃y,y=T-1-h:=⟨_,rfl⟩
   have f6:=F5.out (h+1) (by omega) (by omega)
   obtain ⟨v,hv⟩:∃v,F9 (AN P y).w (AN P h).w=v:=⟨_,rfl⟩
   have hv2:=EF (AN P y).w (AN P h).w
   rw [hv] at hv2
   have HV:=AD hv
   have HV2:=AD hv2
   clear hv hv2
   repeat' (first
    | (refine AM 154 ?_);(refine AR (.int _ (((st+r:Nat):Int))) (V.as (V.addI rfl rfl (by omega)) (by omega)) (by kernel_rfl) ?_;go_step)|refine Pe 156 ?_|refine X0 ?_|refine X2 151 ?_|refine On 155 ?_|refine Om 157 ?_|refine AF ?_;go_step|fail)
   refine AT [11] (fun w=>St W w (BG g n c P::rs')) AA ?_
   replace hS:=hS.drew
   focus
    refine Ab 0 ?_
    refine Ab 1 ?_
    refine Ab 2 ?_
    refine Ab 3 ?_
    (refine Bs 4 (.int _ (((y:Nat):Int))) Cy AA AA AA Ei (V.as (V.subI rfl rfl (by omega)) (by omega)) AA ?_)
    go_step
    refine Y0 5 ?_
    refine Y2 6 [11,12,13] ?_
    refine Ab 7 ?_
    refine Ab 8 ?_
    refine Y0 9 ?_
    refine Y2 10 [11,12,13] ?_
    refine CC 11 ?_
    refine BT (f:=74) rfl rfl Tryz.call74 (Bl _ (AN P y) (AN P h)) ?_;rintro e w ⟨rfl,hE⟩;replace hS:=hS.ext hE;clear hE;rw [HV.out];refine ⟨_,rfl,?_⟩
    refine ⟨fun h=>absurd (by decide) h,?_⟩
    refine AJ ?_
    go_step
    refine DH 12 CY (V.lss rfl rfl) ?_;go_step
    refine DH 13 CY (V.notD rfl) ?_;go_step
    refine AL AA ?_ _
   by_cases hc2:v<0
   ·repeat' (first
     | refine X0 ?_|refine AF ?_;go_step|fail)
    go_roundg (h-st)
    case measure=>omega
    case rel=>
     refine ⟨st,h,by omega,by omega,by omega,rfl,by go_num,HLO.out,fun k1=>?_,hS⟩
     have:=HV2.out.1 hc2
     rw [←hy]
     exact Int.le_of_lt this
   repeat' (first
    | refine Pd 173 ?_|refine X0 ?_|refine AF ?_;go_step|fail)
   go_roundg (r-(h+1))
   case measure=>omega
   case rel=>
    refine ⟨h+1,r,by omega,by omega,by omega,by go_num,rfl,fun k1=>?_,HHI.out,hS⟩
    have:=HV2.out
    rw [show T-(h+1)=y by omega,Nat.add_sub_cancel]
    show (AN P h).w≤(AN P y).w
    omega
  obtain rfl:st=r:=by omega
  obtain ⟨en,hen⟩:∃en,en=T-st:=⟨_,rfl⟩
  have HLO2:Hid (a<st→m≤en→en<b→wk P (st-1)≤wk P en):=fun k1 k2 k3=>by
   rw [hen];exact HLO.out (by omega)
  have HHI2:Hid (m<en→st<m→wk P (en-1)≤wk P st):=fun k1 k2=>by
   rw [show en-1=T-1-st by omega];exact HHI.out (by omega)
  clear HLO HHI
  repeat' (first
   | refine X1 ?_|refine X2 151 ?_|refine AF ?_;go_step|fail)
  by_cases hrot:st<m∧m<en
  ·have hrot1:=hrot.1
   have hrot2:=hrot.2
   repeat' (first
    | refine Pc 177 ?_|(refine Av 119 ?_);refine Aw AA Tryz.call119 (Fj W _ _ rs' g n c st m en P hS AK.head hrot1 hrot2 (by omega) hn Oo) ?_;rintro e w ⟨rfl,Q,hQ,hS2⟩;replace hS:=hS2;clear hS2;refine A9 ?_;go_step|refine X0 ?_|refine X6 ?_|refine X4 180 ?_ ?_<;>intro hB<;>(try exact Ak)<;>go_step|refine X2 184 ?_|refine AF ?_;go_step|fail)
   obtain ⟨s1,s2,s3,s4,hx⟩:=De HA1.out HA2.out ham hmb hmid (show en=mid+m-st by omega) (by omega) (by omega) (by omega) (by omega) (by omega) HLO2.out HHI2.out hQ
   have hQr:=hQ.rg (show st≤m by omega) (show m≤en by omega)
   have hQl:=hQr.len
   have HQR:=AD (hQr.wide (show a≤st by omega) (show en≤b by omega) (by omega) (by omega))
   have HX:=AD hx
   have S1:=AD s1
   have S2:=AD s2
   have S3:=AD s3
   have S4:=AD s4
   have g1:a≤st:=by omega
   have g2:st≤mid:=by omega
   have g3:mid≤en:=by omega
   have g4:en≤b:=by omega
   have g5:mid-a≤N:=by omega
   have g6:b-mid≤N:=by omega
   have g7:a<mid:=by omega
   have g8:mid<b:=by omega
   have hQn:Q.length=n:=by omega
   clear hx s1 s2 s3 s4 hQ hQr HLO2 HHI2 HA1 HA2 F5 HS0a HS0b HR0a HR0b hen hlt hk hst hr f5 f1 f2 f3 f4 hT hmid e1 e2 hc h1' h2' hN hrot hQl hPl hp ham hmb
   by_cases hl:a<st∧st<mid
   ·obtain ⟨hl1,hl2⟩:=hl
    have hb2:mid≤n:=by omega
    have HC:=AD (fun (w:World)(hS:St W w (BG g n c Q::rs'))=>IH.out W w (BG g n c Q::rs') rs' g n c a st mid Q g5 hS AK.head hl1 hl2 hb2 hn S1.out S2.out)
    repeat' (first
     | (refine Av 112 ?_);refine Aw AA Tryz.call112 (HC.out _ hS) ?_;rintro e w ⟨rfl,R,hR1,hR2,hS2⟩;replace hS:=hS2;clear hS2;refine A9 ?_;go_step|refine X1 ?_|refine X6 ?_|refine X4 194 ?_ ?_<;>intro hB<;>(try exact Ak)<;>go_step|refine X2 198 ?_|refine AF ?_;go_step|fail)
    have S5:=AD (S3.out.same (Q:=R) fun x k1 k2=>hR2.out x (by omega))
    have S6:=AD (S4.out.same (Q:=R) fun x k1 k2=>hR2.out x (by omega))
    have R1:=AD hR1
    have R2:=AD hR2
    clear hR1 hR2
    by_cases hr:mid<en∧en<b
    ·obtain ⟨hr1,hr2⟩:=hr
     have HC:=AD (fun (w:World)(hS:St W w (BG g n c R::rs'))=>IH.out W w (BG g n c R::rs') rs' g n c mid en b R g6 hS AK.head hr1 hr2 hb hn S5.out S6.out)
     repeat' (first
      | (refine Av 112 ?_);refine Aw AA Tryz.call112 (HC.out _ hS) ?_;rintro e w ⟨rfl,Z,hZ1,hZ2,hS2⟩;replace hS:=hS2;clear hS2;refine A9 ?_;go_step|refine X1 ?_|refine X6 ?_|refine X4 208 ?_ ?_<;>intro hB<;>(try exact Ak)<;>go_step|refine X2 212 ?_|refine AF ?_;go_step|fail)
     go_end0
     obtain ⟨j1,j2⟩:=Ap (show a≤mid by omega) (show mid≤b by omega) (show b≤Q.length by rw [hQn];exact hb) HX.out R2.out hZ2 R1.out hZ1
     exact ⟨rfl,Z,j1,HQR.out.trans j2,hS⟩
    have hZ1:B7 Bu.w mid b R:=by
     by_cases c1:mid<en
     ·exact S5.out.sub (Nat.le_refl _) (by omega)
     exact S6.out.sub (by omega) (Nat.le_refl _)
    repeat' (first
     | go_skip|((with_reducible refine F2 ?_);(first|go_big_want|go_step);go_step)|((with_reducible refine Al _ (.pick _ _ _) ?_);first|(refine Ag rfl AA ?_;go_step)|(refine AZ rfl AA ?_;go_step))|((refine AM 208 ?_);(refine Bz _ (V.lss rfl rfl) AA (fun hB=>?_) (fun hB=>?_)<;>(try exact Ak)<;>go_step))|((refine AM 212 ?_);(refine AY AA (V.lss rfl rfl) ?_;go_step))|(refine AF ?_;go_step)|fail)
    all_goals
     go_end0
     obtain ⟨j1,j2⟩:=Ap (show a≤mid by omega) (show mid≤b by omega) (show b≤Q.length by rw [hQn];exact hb) HX.out R2.out (Rg.refl _ _ _) R1.out hZ1
     exact ⟨rfl,R,j1,HQR.out.trans j2,hS⟩
   obtain ⟨R,hRe⟩:∃R,R=Q:=⟨Q,rfl⟩
   have hR2:Rg a mid Q R:=by rw [hRe];exact Rg.refl _ _ _
   have hR1:B7 Bu.w a mid R:=by
    rw [hRe]
    by_cases c1:a<st
    ·exact S1.out.sub (Nat.le_refl _) (by omega)
    exact S2.out.sub (by omega) (Nat.le_refl _)
   rw [←hRe] at hS
   repeat' (first
    | go_skip|((with_reducible refine F2 ?_);(first|go_big_want|go_step);go_step)|((with_reducible refine Al _ (.pick _ _ _) ?_);(refine AZ rfl AA ?_;go_step))|((refine AM 194 ?_);(refine Bz _ (V.lss rfl rfl) AA (fun hB=>?_) (fun hB=>?_)<;>(try exact Ak)<;>go_step))|(refine AF ?_;go_step)|fail)
   all_goals
    have S5:=AD (S3.out.same (Q:=R) fun x k1 k2=>hR2.out x (by omega))
    have S6:=AD (S4.out.same (Q:=R) fun x k1 k2=>hR2.out x (by omega))
    have R1:=AD hR1
    have R2:=AD hR2
    clear hR1 hR2
    by_cases hr:mid<en∧en<b
    ·obtain ⟨hr1,hr2⟩:=hr
     have HC:=AD (fun (w:World)(hS:St W w (BG g n c R::rs'))=>IH.out W w (BG g n c R::rs') rs' g n c mid en b R g6 hS AK.head hr1 hr2 hb hn S5.out S6.out)
     repeat' (first
      | (refine Av 112 ?_);refine Aw AA Tryz.call112 (HC.out _ hS) ?_;rintro e w ⟨rfl,Z,hZ1,hZ2,hS2⟩;replace hS:=hS2;clear hS2;refine A9 ?_;go_step|refine X1 ?_|refine X6 ?_|refine X4 208 ?_ ?_<;>intro hB<;>(try exact Ak)<;>go_step|refine X2 212 ?_|refine AF ?_;go_step|fail)
     go_end0
     obtain ⟨j1,j2⟩:=Ap (show a≤mid by omega) (show mid≤b by omega) (show b≤Q.length by rw [hQn];exact hb) HX.out R2.out hZ2 R1.out hZ1
     exact ⟨rfl,Z,j1,HQR.out.trans j2,hS⟩
    have hZ1:B7 Bu.w mid b R:=by
     by_cases c1:mid<en
     ·exact S5.out.sub (Nat.le_refl _) (by omega)
     exact S6.out.sub (by omega) (Nat.le_refl _)
    repeat' (first
     | go_skip|((with_reducible refine F2 ?_);(first|go_big_want|go_step);go_step)|((with_reducible refine Al _ (.pick _ _ _) ?_);first|(refine Ag rfl AA ?_;go_step)|(refine AZ rfl AA ?_;go_step))|((refine AM 208 ?_);(refine Bz _ (V.lss rfl rfl) AA (fun hB=>?_) (fun hB=>?_)<;>(try exact Ak)<;>go_step))|((refine AM 212 ?_);(refine AY AA (V.lss rfl rfl) ?_;go_step))|(refine AF ?_;go_step)|fail)
    all_goals
     go_end0
     obtain ⟨j1,j2⟩:=Ap (show a≤mid by omega) (show mid≤b by omega) (show b≤Q.length by rw [hQn];exact hb) HX.out R2.out (Rg.refl _ _ _) R1.out hZ1
     exact ⟨rfl,R,j1,HQR.out.trans j2,hS⟩
  obtain ⟨Q,hQe,hQ⟩:∃Q,Q=P∧Hu st m en P Q:=⟨P,rfl,Hu.triv (by omega) (by omega) (by omega) (by omega)⟩
  rw [←hQe] at hS
  repeat' (first
   | refine Pc 177 ?_|go_skip|refine X0 ?_|refine Jc ?_|refine X4 180 ?_ ?_<;>intro hB<;>(try exact Ak)<;>go_step|refine AF ?_;go_step|fail)
  all_goals
   obtain ⟨s1,s2,s3,s4,hx⟩:=De HA1.out HA2.out ham hmb hmid (show en=mid+m-st by omega) (by omega) (by omega) (by omega) (by omega) (by omega) HLO2.out HHI2.out hQ
   have hQr:=hQ.rg (show st≤m by omega) (show m≤en by omega)
   have hQl:=hQr.len
   have HQR:=AD (hQr.wide (show a≤st by omega) (show en≤b by omega) (by omega) (by omega))
   have HX:=AD hx
   have S1:=AD s1
   have S2:=AD s2
   have S3:=AD s3
   have S4:=AD s4
   have g1:a≤st:=by omega
   have g2:st≤mid:=by omega
   have g3:mid≤en:=by omega
   have g4:en≤b:=by omega
   have g5:mid-a≤N:=by omega
   have g6:b-mid≤N:=by omega
   have g7:a<mid:=by omega
   have g8:mid<b:=by omega
   have hQn:Q.length=n:=by omega
   clear hx s1 s2 s3 s4 hQ hQr HLO2 HHI2 HA1 HA2 F5 HS0a HS0b HR0a HR0b hen hlt hk hst hr f5 f1 f2 f3 f4 hT hmid e1 e2 hc h1' h2' hN hrot hQl hPl hp ham hmb
   by_cases hl:a<st∧st<mid
   ·obtain ⟨hl1,hl2⟩:=hl
    have hb2:mid≤n:=by omega
    have HC:=AD (fun (w:World)(hS:St W w (BG g n c Q::rs'))=>IH.out W w (BG g n c Q::rs') rs' g n c a st mid Q g5 hS AK.head hl1 hl2 hb2 hn S1.out S2.out)
    repeat' (first
     | (refine Av 112 ?_);refine Aw AA Tryz.call112 (HC.out _ hS) ?_;rintro e w ⟨rfl,R,hR1,hR2,hS2⟩;replace hS:=hS2;clear hS2;refine A9 ?_;go_step|refine X1 ?_|refine X6 ?_|refine X4 194 ?_ ?_<;>intro hB<;>(try exact Ak)<;>go_step|refine X2 198 ?_|refine AF ?_;go_step|fail)
    have S5:=AD (S3.out.same (Q:=R) fun x k1 k2=>hR2.out x (by omega))
    have S6:=AD (S4.out.same (Q:=R) fun x k1 k2=>hR2.out x (by omega))
    have R1:=AD hR1
    have R2:=AD hR2
    clear hR1 hR2
    by_cases hr:mid<en∧en<b
    ·obtain ⟨hr1,hr2⟩:=hr
     have HC:=AD (fun (w:World)(hS:St W w (BG g n c R::rs'))=>IH.out W w (BG g n c R::rs') rs' g n c mid en b R g6 hS AK.head hr1 hr2 hb hn S5.out S6.out)
     repeat' (first
      | (refine Av 112 ?_);refine Aw AA Tryz.call112 (HC.out _ hS) ?_;rintro e w ⟨rfl,Z,hZ1,hZ2,hS2⟩;replace hS:=hS2;clear hS2;refine A9 ?_;go_step|refine X1 ?_|refine X6 ?_|refine X4 208 ?_ ?_<;>intro hB<;>(try exact Ak)<;>go_step|refine X2 212 ?_|refine AF ?_;go_step|fail)
     go_end0
     obtain ⟨j1,j2⟩:=Ap (show a≤mid by omega) (show mid≤b by omega) (show b≤Q.length by rw [hQn];exact hb) HX.out R2.out hZ2 R1.out hZ1
     exact ⟨rfl,Z,j1,HQR.out.trans j2,hS⟩
    have hZ1:B7 Bu.w mid b R:=by
     by_cases c1:mid<en
     ·exact S5.out.sub (Nat.le_refl _) (by omega)
     exact S6.out.sub (by omega) (Nat.le_refl _)
    repeat' (first
     | go_skip|((with_reducible refine F2 ?_);(first|go_big_want|go_step);go_step)|((with_reducible refine Al _ (.pick _ _ _) ?_);first|(refine Ag rfl AA ?_;go_step)|(refine AZ rfl AA ?_;go_step))|((refine AM 208 ?_);(refine Bz _ (V.lss rfl rfl) AA (fun hB=>?_) (fun hB=>?_)<;>(try exact Ak)<;>go_step))|((refine AM 212 ?_);(refine AY AA (V.lss rfl rfl) ?_;go_step))|(refine AF ?_;go_step)|fail)
    all_goals
     go_end0
     obtain ⟨j1,j2⟩:=Ap (show a≤mid by omega) (show mid≤b by omega) (show b≤Q.length by rw [hQn];exact hb) HX.out R2.out (Rg.refl _ _ _) R1.out hZ1
     exact ⟨rfl,R,j1,HQR.out.trans j2,hS⟩
   obtain ⟨R,hRe⟩:∃R,R=Q:=⟨Q,rfl⟩
   have hR2:Rg a mid Q R:=by rw [hRe];exact Rg.refl _ _ _
   have hR1:B7 Bu.w a mid R:=by
    rw [hRe]
    by_cases c1:a<st
    ·exact S1.out.sub (Nat.le_refl _) (by omega)
    exact S2.out.sub (by omega) (Nat.le_refl _)
   rw [←hRe] at hS
   repeat' (first
    | go_skip|((with_reducible refine F2 ?_);(first|go_big_want|go_step);go_step)|((with_reducible refine Al _ (.pick _ _ _) ?_);first|(refine Ag rfl AA ?_;go_step)|(refine AZ rfl AA ?_;go_step))|((refine AM 194 ?_);(refine Bz _ (V.lss rfl rfl) AA (fun hB=>?_) (fun hB=>?_)<;>(try exact Ak)<;>go_step))|((refine AM 198 ?_);(refine AY AA (V.lss rfl rfl) ?_;go_step))|(refine AF ?_;go_step)|fail)
   all_goals
    have S5:=AD (S3.out.same (Q:=R) fun x k1 k2=>hR2.out x (by omega))
    have S6:=AD (S4.out.same (Q:=R) fun x k1 k2=>hR2.out x (by omega))
    have R1:=AD hR1
    have R2:=AD hR2
    clear hR1 hR2
    by_cases hr:mid<en∧en<b
    ·obtain ⟨hr1,hr2⟩:=hr
     have HC:=AD (fun (w:World)(hS:St W w (BG g n c R::rs'))=>IH.out W w (BG g n c R::rs') rs' g n c mid en b R g6 hS AK.head hr1 hr2 hb hn S5.out S6.out)
     repeat' (first
      | (refine Av 112 ?_);refine Aw AA Tryz.call112 (HC.out _ hS) ?_;rintro e w ⟨rfl,Z,hZ1,hZ2,hS2⟩;replace hS:=hS2;clear hS2;refine A9 ?_;go_step|refine X1 ?_|refine X6 ?_|refine X4 208 ?_ ?_<;>intro hB<;>(try exact Ak)<;>go_step|refine X2 212 ?_|refine AF ?_;go_step|fail)
     go_end0
     obtain ⟨j1,j2⟩:=Ap (show a≤mid by omega) (show mid≤b by omega) (show b≤Q.length by rw [hQn];exact hb) HX.out R2.out hZ2 R1.out hZ1
     exact ⟨rfl,Z,j1,HQR.out.trans j2,hS⟩
    have hZ1:B7 Bu.w mid b R:=by
     by_cases c1:mid<en
     ·exact S5.out.sub (Nat.le_refl _) (by omega)
     exact S6.out.sub (by omega) (Nat.le_refl _)
    repeat' (first
     | go_skip|((with_reducible refine F2 ?_);(first|go_big_want|go_step);go_step)|((with_reducible refine Al _ (.pick _ _ _) ?_);first|(refine Ag rfl AA ?_;go_step)|(refine AZ rfl AA ?_;go_step))|((refine AM 208 ?_);(refine Bz _ (V.lss rfl rfl) AA (fun hB=>?_) (fun hB=>?_)<;>(try exact Ak)<;>go_step))|((refine AM 212 ?_);(refine AY AA (V.lss rfl rfl) ?_;go_step))|(refine AF ?_;go_step)|fail)
    all_goals
     go_end0
     obtain ⟨j1,j2⟩:=Ap (show a≤mid by omega) (show mid≤b by omega) (show b≤Q.length by rw [hQn];exact hb) HX.out R2.out (Rg.refl _ _ _) R1.out hZ1
     exact ⟨rfl,R,j1,HQR.out.trans j2,hS⟩
end Go.Proofs.YtngojkompmcceaaGreatDoor
