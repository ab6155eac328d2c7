/- What the laws FrameThree need, part 14. -/
import Derived.Test.YtohacgmhmbijmaaGreatDoorBaseTZ1
import Derived.Test.YtohacgmhmbijmaaGreatDoorBaseTZ2
import Derived.Test.YtohacgmhmbijmaaGreatDoorBaseTZ3
import Derived.Test.YtohacgmhmbijmaaGreatDoorBaseTZ5
import Derived.Test.YtohacgmhmbijmaaGreatDoorBaseTZ13
import Derived.Lib.AppendZeros
import Derived.Laws.Cover3
namespace Go.Proofs.YtohacgmhmbijmaaGreatDoor
attribute [local irreducible] Region.wanted
open Go.RowKit
set_option linter.unusedVariables false
set_option maxRecDepth 100000
set_option maxHeartbeats 8000000
theorem NZ{lo hi:Nat}{P:List DN}(h:hi≤lo):Dl DN.w lo hi P:=fun i j h1 h2 h3=>by omega
theorem Jn{lo hi lo' hi':Nat}{P:List DN}(h:Dl DN.w lo hi P)(h1:lo=lo')(h2:hi'≤hi):Dl DN.w lo' hi' P:=by subst h1;exact h.sub (Nat.le_refl _) h2
def Ym(s n:Nat)(P:List DN):Prop:=∀k,Dl DN.w (k*s) (min (k*s+s) n) P
theorem P9(W w0:World)(rs rs':List Au)(g n c:Nat)(P:List DN)(hS:St W w0 rs)(hp:AT (CW g n c P) rs rs')(hn:n≤100000):
 Calls Tryz.prog 131 #[.slice (some ⟨g,0,none⟩) n c, .int .i64 n,aw] w0 fun e w=>e= .returned (.tuple #[])∧∃Q,Dl DN.w 0 n Q∧Rg 0 n P Q∧St W w (CW g n c Q::rs'):=by
 replace hS:=hS.pull hp
 have hPl:=EB hS AT.head Ct (by decide)
 clear hp
 go_enter Tryz.func131,Tryz.ntmps131
 repeat' (first
  | refine X0 ?_|refine AG ?_;go_step|fail)
 go_loopg [7,8] n (fun gk av bv w=>∃(k a:Nat) (Q:List DN),gk+k=n∧a=k*20∧a≤n∧av= .int .i64 a∧bv= .int .i64 (a+20:Nat)∧(∀j,j<k→Dl DN.w (j*20) (j*20+20) Q)∧Rg 0 n P Q∧St W w (CW g n c Q::rs'))
 case atStart=>exact ⟨0,0,P,by omega,rfl,by omega,rfl,rfl,fun j h=>by omega,Rg.refl _ _ _,hS⟩
 case round=>
  clear hS
  obtain ⟨k,a,Q,hk,ha,han,rfl,rfl,hA,hR,hS⟩:=hrel
  have HA:=AD hA
  have HR:=AD hR
  have hQl:=hR.len
  clear hA hR
  by_cases hlt:a+20≤n
  ·have HC:=AD (fun (w:World)(hS:St W w (CW g n c Q::rs'))=>Iy W w (CW g n c Q::rs') rs' g n c a (a+20) Q hS AT.head (by omega) hlt (by omega))
   repeat' (first
    | (refine AS 22 ?_);(refine Ak (.int _ (((a+20+20:Nat):Int))) (V.as (V.addI rfl rfl (by omega)) (by omega)) (by kernel_rfl) ?_;go_step)|(refine A3 138 ?_);refine A4 AA Tryz.call138 (HC.out _ hS) ?_;rintro e w ⟨rfl,Z,hZ1,hZ2,hS2⟩;replace hS:=hS2;clear hS2;refine Ae ?_;go_step|refine X0 ?_|refine bo 13 ?_|refine AG ?_;go_step|fail)
   go_roundg (gk-1)
   case measure=>omega
   case rel=>
    refine ⟨k+1,a+20,Z,by omega,by omega,by omega,rfl,by go_num,fun j hj=>?_,HR.out.trans (hZ2.wide (by omega) (by omega) (by omega) (by omega)),hS⟩
    by_cases hjk:j=k
    ·subst hjk;rw [←ha];exact hZ1
    exact (HA.out j (by omega)).same fun x k1 k2=>hZ2.out x (by omega)
  have HC:=AD (fun (w:World)(hS:St W w (CW g n c Q::rs'))=>Iy W w (CW g n c Q::rs') rs' g n c a n Q hS AT.head (by omega) (by omega) (by omega))
  repeat' (first
   | refine X1 ?_|refine bo 13 ?_|refine AG ?_;go_step|fail)
  repeat' (first
   | (refine A3 138 ?_);refine A4 AA Tryz.call138 (HC.out _ hS) ?_;rintro e w ⟨rfl,Z,hZ1,hZ2,hS2⟩;replace hS:=hS2;clear hS2;refine Ae ?_;go_step|refine AG ?_;go_step|fail)
  have hB:Ym 20 n Z:=fun j=>by
   by_cases h1:j<k
   ·exact ((HA.out j h1).same fun x k1 k2=>hZ2.out x (by omega)).sub (Nat.le_refl _) (Nat.min_le_left _ _)
   by_cases h2:j=k
   ·subst h2;rw [←ha];exact hZ1.sub (Nat.le_refl _) (Nat.min_le_right _ _)
   exact NZ (by omega)
  have hRZ:Rg 0 n P Z:=HR.out.trans (hZ2.wide (by omega) (by omega) (by omega) (by omega))
  have HB:=AD hB
  have HRZ:=AD hRZ
  clear hB hRZ HR HA HC hZ1 hZ2
  go_loopg [6] (n-20) (fun gk sv w=>∃(s:Nat) (Q:List DN),gk+s=max n s∧1≤s∧s≤2*n+20∧sv= .int .i64 s∧Ym s n Q∧Rg 0 n P Q∧St W w (CW g n c Q::rs'))
  case atStart=>exact ⟨20,Z,by omega,by omega,by omega,rfl,HB.out,HRZ.out,hS⟩
  case round=>
   clear hS HB HRZ
   obtain ⟨s,Q,hk,hs1,hs2,rfl,hB,hR,hS⟩:=hrel
   have HB:=AD hB
   have HR:=AD hR
   have hQl:=hR.len
   clear hB hR
   by_cases hlt2:s<n
   ·obtain ⟨gk1,hgk1⟩:∃x,x=gk:=⟨_,rfl⟩
    subst hgk1
    obtain ⟨t,ht⟩:∃t,t=2*s:=⟨_,rfl⟩
    repeat' (first
     | refine WQ 32 ?_|refine X0 ?_|refine X4 30 ?_|refine AG ?_;go_step|fail)
    go_loopg [7,8] n (fun gk av bv w=>∃(k a:Nat) (Q:List DN),gk+k=n∧a=k*t∧a≤n∧av= .int .i64 a∧bv= .int .i64 (a+t:Nat)∧(∀j,j<k→Dl DN.w (j*t) (j*t+t) Q)∧(∀j,2*k≤j→Dl DN.w (j*s) (min (j*s+s) n) Q)∧Rg 0 n P Q∧St W w (CW g n c Q::rs'))
    case atStart=>exact ⟨0,0,Q,by omega,by omega,by omega,rfl,by rw [Nat.zero_add],fun j h=>by omega,fun j _=>HB.out j,HR.out,hS⟩
    case round=>
     clear hS HB HR
     obtain ⟨k,a,Q,hk3,ha,han,rfl,rfl,hA,hA2,hR,hS⟩:=hrel
     have hQl:=hR.len
     have m1:2*k*s=a:=by rw [ha,ht,Nat.mul_comm 2 k,Nat.mul_assoc]
     have m2:(2*k+1)*s=a+s:=by rw [Nat.add_mul,m1,Nat.one_mul]
     have m3:(k+1)*t=a+t:=by rw [Nat.add_mul,Nat.one_mul,←ha]
     have m4:∀j,2*k+2≤j→a+t≤j*s:=fun j hj=>by
      have:=Nat.mul_le_mul_right s hj
      rw [show (2*k+2)*s=a+t by rw [Nat.add_mul,m1,ht]] at this
      exact this
     have m5:∀j,j<k→j*t+t≤a:=fun j hj=>by
      have:=Nat.mul_le_mul_right t hj
      rw [Nat.succ_mul,←ha] at this
      exact this
     have m6:∀j,k<j→a+t≤j*t:=fun j hj=>by
      have:=Nat.mul_le_mul_right t hj
      rw [show (k.succ)*t=a+t from m3] at this
      exact this
     have hkt:k≤k*t:=Nat.le_mul_of_pos_right k (by omega)
     rw [←ha] at hkt
     have a1:=hA2 (2*k) (Nat.le_refl _)
     have a2:=hA2 (2*k+1) (by omega)
     rw [m1] at a1
     rw [m2] at a2
     have HA:=AD hA
     have HA2:=AD hA2
     have HR:=AD hR
     have M3:=AD m3
     have M4:=AD m4
     have M5:=AD m5
     have M6:=AD m6
     have Ha:=AD ha
     clear hA hA2 hR m1 m2 m3 m4 m5 m6 ha
     by_cases hlt:a+t≤n
     ·have HC:=AD (fun (w:World)(hS:St W w (CW g n c Q::rs'))=>Hv n W w (CW g n c Q::rs') rs' g n c a (a+s) (a+t) Q (by omega) hS AT.head (by omega) (by omega) hlt (by omega) (Jn a1 rfl (by omega)) (Jn a2 rfl (by omega)))
      clear a1 a2
      repeat' (first
       | refine ZN 40 ?_|refine WQ 47 ?_|(refine AS 48 ?_);(refine Ak (.int _ (((a+t+t:Nat):Int))) (V.as (V.addI rfl rfl (by omega)) (by omega)) (by kernel_rfl) ?_;go_step)|(refine A3 139 ?_);refine A4 AA Tryz.call139 (HC.out _ hS) ?_;rintro e w ⟨rfl,Z,hZ1,hZ2,hS2⟩;replace hS:=hS2;clear hS2;refine Ae ?_;go_step|refine X0 ?_|refine bo 35 ?_|refine AG ?_;go_step|fail)
      go_roundg (gk-1)
      case measure=>omega
      case rel=>
       refine ⟨k+1,a+t,Z,by omega,M3.out.symm,by omega,rfl,by go_num,fun j hj=>?_,fun j hj=>?_,HR.out.trans (hZ2.wide (by omega) (by omega) (by omega) (by omega)),hS⟩
       ·by_cases hjk:j=k
        ·subst hjk;rw [←Ha.out];exact hZ1
        have:=M5.out j (by omega)
        exact (HA.out j (by omega)).same fun x k1 k2=>hZ2.out x (by omega)
       have:=M4.out j (by omega)
       exact (HA2.out j (by omega)).same fun x k1 k2=>hZ2.out x (by omega)
     have HF:Hid (∀Z,Dl DN.w a n Z→Rg a n Q Z→Ym t n Z∧Rg 0 n P Z):=fun Z hZ1 hZ2=>⟨fun j=>by
      by_cases h1:j<k
      ·have:=M5.out j h1
       exact ((HA.out j h1).same fun x k1 k2=>hZ2.out x (by omega)).sub (Nat.le_refl _) (Nat.min_le_left _ _)
      by_cases h2:j=k
      ·subst h2;rw [←Ha.out];exact hZ1.sub (Nat.le_refl _) (Nat.min_le_right _ _)
      have:=M6.out j (by omega)
      exact NZ (by omega),HR.out.trans (hZ2.wide (by omega) (by omega) (by omega) (by omega))⟩
     by_cases hm:a+s<n
     ·have HC:=AD (fun (w:World)(hS:St W w (CW g n c Q::rs'))=>Hv n W w (CW g n c Q::rs') rs' g n c a (a+s) n Q (by omega) hS AT.head (by omega) hm (by omega) (by omega) (Jn a1 rfl (by omega)) (Jn a2 rfl (by omega)))
      clear a1 a2
      repeat' (first
       | refine X1 ?_|refine bo 35 ?_|refine AG ?_;go_step|fail)
      repeat' (first
       | refine ZN 51 ?_|refine WQ 62 ?_|(refine A3 139 ?_);refine A4 AA Tryz.call139 (HC.out _ hS) ?_;rintro e w ⟨rfl,Z,hZ1,hZ2,hS2⟩;replace hS:=hS2;clear hS2;refine Ae ?_;go_step|refine X0 ?_|refine X4 54 ?_|refine AG ?_;go_step|fail)
      obtain ⟨b1,b2⟩:=HF.out Z hZ1 hZ2
      go_roundg (n-t)
      case measure=>omega
      case rel=>exact ⟨t,Z,by omega,by omega,by omega,by go_num,b1,b2,hS⟩
     obtain ⟨b1,b2⟩:=HF.out Q (Jn a1 rfl (by omega)) (Rg.refl _ _ _)
     have B1:=AD b1
     have B2:=AD b2
     clear a1 a2 b1 b2
     repeat' (first
      | refine X1 ?_|refine bo 35 ?_|refine AG ?_;go_step|fail)
     repeat' (first
      | refine ZN 51 ?_|refine X0 ?_|refine X4 54 ?_|refine AG ?_;go_step|fail)
     repeat' (first
      | refine WQ 62 ?_|refine X8 ?_|refine AG ?_;go_step|fail)
     go_roundg (n-t)
     case measure=>omega
     case rel=>exact ⟨t,Q,by omega,by omega,by omega,by go_num,B1.out,B2.out,hS⟩
   repeat' (first
    | refine X1 ?_|refine X4 30 ?_|refine AG ?_;go_step|fail)
   go_end0
   have:=HB.out 0
   rw [Nat.zero_mul,Nat.zero_add] at this
   exact ⟨rfl,Q,this.sub (Nat.le_refl _) (by omega),HR.out,hS⟩
theorem Fm(W w0:World)(rs rs':List Au)(g n c:Nat)(P:List DN)(hS:St W w0 rs)(hp:AT (CW g n c P) rs rs')(hn:n≤100000):
 Calls Tryz.prog 103 #[.slice (some ⟨g,0,none⟩) n c,aw] w0 fun e w=>e= .returned (.tuple #[])∧∃Q,Q.Perm P∧Q.Pairwise (fun a b=>a.w≤b.w)∧St W w (CW g n c Q::rs'):=by
 replace hS:=hS.pull hp
 have hPl:=EB hS AT.head Ct (by decide)
 have HC:=AD (fun (w:World)(hS:St W w (CW g n c P::rs'))=>P9 W w (CW g n c P::rs') rs' g n c P hS AT.head hn)
 clear hp
 go_enter Tryz.func103,Tryz.ntmps103
 repeat' (first
  | (refine A3 131 ?_);refine A4 AA Tryz.call131 (HC.out _ hS) ?_;rintro e w ⟨rfl,Z,hZ1,hZ2,hS2⟩;replace hS:=hS2;clear hS2;refine Ae ?_;go_step|refine X1 ?_|(with_reducible refine An _ (.call ⟨.builtin .len,_,_⟩) ?_);(refine As AA (V.len Tryz.underlying160 rfl) ?_;go_step)|refine AG ?_;go_step|fail)
 go_end0
 rw [←hPl] at hZ1 hZ2
 have hl:=hZ2.len
 exact ⟨rfl,Z,hZ2.all,Dl.pair (hl.symm▸ hZ1),hS⟩
theorem Jy(g c s:Nat):cutAt (some ⟨g,0,none⟩) c 0 s=some ⟨g,0,none⟩:=by
 unfold cutAt
 split
 ·rfl
 rw [Option.map_some,Addr.add_mid,Nat.zero_mul]
section
variable{P:Program}{W w:World}{rs rs':List Au}{Q:Exit→Act→World→Prop}{K:Act→World→Prop}{o:Oper}{a:Act}
theorem QJ(hS:St W w rs)(s x:Operand)(t tn:TypeId)(ho:o.op= .call {callee:= .builtin .append,args:=#[s,x],argTypes:=#[t,tn]})(e:TypeId)(b:Nat)(k:IntKind)(el:GL P t e k 1 b)(kn:IntKind)(htn:P.underlying tn=some (.int kn))
 (hs:a.eval s= .slice none 0 0) (k2:IntKind) (n:Nat) (hx:a.eval x= .int k2 n) (h0:0<n) (h63:n≤maxLen) (hb:n*b≤281474976710656)
 (h:∀g c' w',n≤c'→c'≤maxLen→St W w' (own e 1 (some ⟨g,0,none⟩) 0 c' []::rs)→K (a.put o.dst (.slice (some ⟨g,0,none⟩) n c')) w'):o.wp P a w K Q:=by
 obtain ⟨ht,⟨i,z,hi,hz,hsz,hby,hzc⟩,_⟩:=el
 have hr:=Lib.run_append_nil_zeros (P:=P) w t tn o.type e i z k2 kn ht htn hi hz n h0 (by omega) (by unfold maxLen at h63;omega) (by rw [hby];exact hb)
 have hg1:=grownCap_ge w n 0 e
 have hg2:=grownCap_le_maxLen w n 0 e h63
 obtain ⟨G,hG⟩:∃G,grownCap w n 0 e=G:=⟨_,rfl⟩
 rw [hG] at hr hg1 hg2
 refine Lib.wp_append_run w s x t tn ho _ _ hs hx _ _ hr (h _ _ _ hg1 hg2 ?_)
 have hS2:=hS.drew
 obtain ⟨h1,f,h2,h3,h4⟩:=hS2
 refine ⟨h1.alloc _,w.heap.size::f,List.nodup_cons.2 ⟨fun hm=>by have:=h4.lt _ hm;exact absurd this (Nat.lt_irrefl _),h2⟩,fun b hb=>?_,[w.heap.size],f,rfl,⟨rfl,rfl, .inr ⟨w.heap.size,G,_,rfl,Nat.zero_le _,heap_alloc_new w.drew _,Nat.zero_le _,hg2,?_,by simp⟩⟩,h4.loc fun b hb=>?_⟩
 ·rcases List.mem_cons.1 hb with h|h
  ·rw [h];exact h1.sz
  exact h3 b h
 ·rw [Array.size_append,size_zeroCells,size_zeroCells,hzc,Array.size_replicate];omega
 exact heap_alloc_old w.drew _ (h4.lt b hb)
end
theorem V.cap{P:Program}{a:Act}{x:Operand}{t ty:TypeId}{ad:Option Addr}{n c:Nat}{e:TypeId}(ht:P.underlying t=some (.slice e))(hx:a.eval x= .slice ad n c):DK P (.call {callee:= .builtin .cap,args:=#[x],argTypes:=#[t]}) ty a (.int .i64 c):=fun d pos af g w=>by
 have e:P.elem t=e:=by simp [Program.elem,ht]
 have e2:=run_cap_slice (P:=P) w t ty ad n c (by rw [e];exact ht)
 simp only [execOp,resolve,invoke,builtin,Sem.run_bind,Sem.run_pure,Result.andThen_ok,List.map_toArray,List.map_cons,List.map_nil,hx,e2]
 rfl
theorem UB(w0:World)(n:Nat)(hn:n≤1000000):Calls Tryz.prog 133 #[.slice none 0 0, .int .i64 n] w0 fun e w=>∃(ad:Option Addr) (c:Nat),e= .returned (.slice ad 0 c)∧St w0 w [own 3 1 ad 0 c []]:=by
 have hS:=St.start w0
 go_enter Tryz.func133,Tryz.ntmps133
 by_cases h0:n=0
 ·subst h0
  repeat' (first
   | refine X0 ?_|refine X4 6 ?_|refine AG ?_;go_step|fail)
  repeat' (first
   | refine ZS 13 ?_|refine ZS 14 ?_|refine X0 ?_|(refine AS 10 ?_);(refine As AA (V.cap Tryz.underlying30 rfl) ?_;go_step)|refine TH 12 ?_|refine ME 16 ?_|refine AG ?_;go_step|fail)
  repeat' (first
   | refine AG ?_;go_step|fail)
  go_ret
  exact ⟨none,0,rfl,hS.nil 3 1⟩
 repeat' (first
  | refine X0 ?_|refine X4 6 ?_|refine AG ?_;go_step|fail)
 repeat' (first
  | refine ZS 13 ?_|(refine AS 14 ?_);(refine Ak (.int _ (((n:Nat):Int))) (V.as (V.subI rfl rfl (by omega)) (by omega)) (by kernel_rfl) ?_;go_step)|refine X0 ?_|(refine AS 10 ?_);(refine As AA (V.cap Tryz.underlying30 rfl) ?_;go_step)|refine TH 12 ?_|refine ME 16 ?_|refine AG ?_;go_step|fail)
 repeat' (first
  | (refine AS 20 ?_);refine Ak (.slice none 0 0) (V.slice Tryz.underlying30 EL rfl .none (.some rfl (show Bq ((0:Nat):Int) 0 from rfl)) (Nat.le_refl _) (Nat.le_refl _)) AA ?_;go_step|(refine AS 22 ?_);refine Ag ?_;refine QJ (o:=⟨some 22,_,_,_,_,_⟩) hS _ _ 30 3 rfl 3 8 .i64 Tv .i64 Tryz.underlying3 rfl .i64 n rfl (by omega) (by unfold maxLen;omega) (by omega) ?_;clear hS;intro g22 c22 w hc1 hc2 hS;refine AB ?_;go_step|refine X0 ?_|(refine AS 19 ?_);(refine As AA (V.cap Tryz.underlying30 rfl) ?_;go_step)|refine TH 24 ?_|(refine AS 25 ?_);(refine As AA (V.slice Tryz.underlying30 EL rfl (by (first|exact Lo.none|exact Lo.some rfl BI)) (by (first|exact Up.none|exact Up.some rfl BI)) (by omega) (by omega)) ?_;go_step)|refine AG ?_;go_step|fail)
 go_ret
 refine ⟨some ⟨g22,0,none⟩,c22,?_,hS⟩
 show Ending.returned (.slice (cutAt (some ⟨g22,0,none⟩) c22 0 1) (0-0) (c22-0))=_
 rw [Jy]
 rfl
theorem AT.mem2:∀(ss rs:List Au)(r:Au),∃ss',AT r (ss++r::rs) ss'
 | [],rs,r=>⟨rs, .head⟩
 | x::ss,rs,r=>by obtain ⟨s,hs⟩:=AT.mem2 ss rs r;exact ⟨x::s, .tail hs⟩
theorem RA(P:List DN):∀u∈P.flatMap LJ,u.oneCell'=true:=fun u hu=>by
 obtain ⟨p,_,h⟩:=List.mem_flatMap.1 hu
 simp only [LJ,List.mem_cons,List.mem_nil_iff,or_false] at h
 rcases h with rfl|rfl<;>rfl
theorem V.eqlNilS{P:Program}{a:Act}{x y:Operand}{t ty u e:TypeId}{ad:Option Addr}{n c:Nat}(ht:P.underlying t=some (.slice e))(hg:P.eqGuardType P.depth t=false)(hx:a.eval x= .slice ad n c)(hy:a.eval y= .slice none 0 0):DK P (.binOp .eql t x y u) ty a (.bool ad.isNone):=fun d pos af g w=>by
 have e1:(eqGuard .eql t x y (.slice ad n c) (.slice none 0 0)).run P w= .ok () w:=by
  unfold eqGuard
  simp
 have e2:(binOp .eql t (.slice ad n c) (.slice none 0 0)).run P w= .ok (.bool ad.isNone) w:=by
  have:binOp .eql t (.slice ad n c) (.slice none 0 0)=(do pure (.bool (←Op.equal t (.slice ad n c) (.slice none 0 0)))):=rfl
  rw [this]
  simp only [Sem.run_bind,run_equal_slice_nil w t e ad n c ht,Result.andThen_ok,Sem.run_pure]
 simp only [execOp,hx,hy,Sem.run_bind,e1,Result.andThen_ok,e2,Sem.run_pure]
section
variable{P:Program}{W w:World}{rs rs':List Au}{Q:Exit→Act→World→Prop}{K:Act→World→Prop}{o:Oper}{a:Act}
theorem Kl(hS:St W w rs)(t:TypeId)(ho:o.op= .buildSlice t 0 #[])(e:TypeId)(s b:Nat)(el:CC P t e s b)
 (h:∀g w',St W w' (own e s (some ⟨g,0,none⟩) 0 0 []::rs)→K (a.put o.dst (.slice (some ⟨g,0,none⟩) 0 0)) w'):o.wp P a w K Q:=by
 obtain ⟨ht,⟨i,z,hi,hz,hsz,hb,hzs⟩,hp⟩:=el
 have hr:(Instr.buildSlice t 0 #[]).run P w= .ok (.slice (some ⟨w.heap.size,0,none⟩) 0 0) (w.alloc (.cells #[] e)):=by
  simp [Instr.buildSlice,run_underlying ht,sizeOf,typeInfo,hi,Instr.fill,newRow]
  rw [Array.eq_empty_of_size_eq_zero (xs:=Array.map (fun x=>default) (Array.range 0)) (by simp)]
 have hst:=hS.allocOwn e s 0 [] (by simp) (Nat.zero_le _)
 unfold Oper.wp execOp
 simp only [ho,Sem.run_bind,Array.map_empty,hr,Result.andThen_ok,Sem.run_pure]
 exact h _ _ hst
end
theorem Rx(W w0:World)(rs rs':List Au)(g n c:Nat)(P:List DN)(hS:St W w0 rs)(hp:AT (CW g n c P) rs rs')(hn:n≤100000)(hn0:0<n):
 Calls Tryz.prog 105 #[.slice (some ⟨g,0,none⟩) n c] w0 fun e w=>∃(g' c':Nat),e= .returned (.slice (some ⟨g',0,none⟩) n c')∧St W w (CW g' n c' P::CW g n c P::rs'):=by
 replace hS:=hS.pull hp
 go_enter Tryz.func105,Tryz.ntmps105
 have he:=Ct
 have hsl:∀w rs2,St W w (rs2++CW g n c P::rs')→Sl w 2 (.slice (some ⟨g,0,none⟩) n c) n (P.flatMap LJ):=fun w rs2 h=>by
  obtain ⟨ss',hp⟩:=AT.mem2 rs2 rs' (CW g n c P)
  exact h.sl hp
 repeat' (first
  | (refine AS 4 ?_);refine Ak (.bool false) (V.eqlNilS (ad:=some ⟨g,0,none⟩) (n:=n) (c:=c) Tryz.underlying160 AA rfl rfl) AA ?_;go_step|refine X0 ?_|refine AG ?_;go_step|fail)
 repeat' (first
  | (refine AS 5 ?_);refine Ag ?_;refine Kl (o:=⟨some 5,_,_,_,_,_⟩) hS 160 rfl 159 2 32 Ir ?_;clear hS;intro g5 w hS;refine AB ?_;go_step|(refine AS 7 ?_);refine Ag ?_;refine AO (o:=⟨some 7,_,_,_,_,_⟩) hS _ _ 160 rfl 159 2 32 Ir _ _ _ _ rfl .head _ rfl n _ (hsl _ [_] hS) (RA P) (by unfold maxLen;omega) (by omega) ?_;clear hS;intro ad7 c7 w hS;refine AB ?_;go_step|refine X0 ?_|refine AG ?_;go_step|fail)
 go_ret
 rw [Nat.zero_add,List.nil_append] at hS
 obtain ⟨g',rfl⟩:=CE hS .head hn0
 refine ⟨g',c7,?_,hS⟩
 show Ending.returned (.slice (some ⟨g',0,none⟩) (0+n) c7)=_
 rw [Nat.zero_add]
structure Sr where
 ad:Option Addr
 c:Nat
 xs:List Int
def Sr.val(p:Sr):Value:= .slice p.ad p.xs.length p.c
def Sr.res(p:Sr):Au:=own 3 1 p.ad p.xs.length p.c (p.xs.map (Value.int .i64))
def J2(R:List Sr)(k:Nat):List Int:=(R.take k).flatMap (·.xs)
theorem Ld(R:List Sr)(k:Nat)(r:Sr)(h:R[k]? =some r):J2 R (k+1)=J2 R k++r.xs:=by
 obtain ⟨hk,e⟩:=List.getElem?_eq_some_iff.1 h
 unfold J2
 rw [List.take_succ_eq_append_getElem hk,List.flatMap_append,e]
 simp
theorem Wx(R:List Sr)(k:Nat):(J2 R k).length≤(R.flatMap (·.xs)).length:=by
 have:R.flatMap (·.xs)=(R.take k).flatMap (·.xs)++(R.drop k).flatMap (·.xs):=by rw [←List.flatMap_append,List.take_append_drop]
 rw [this,List.length_append]
 unfold J2
 omega
theorem PO(w0:World)(g m mc:Nat)(R:List Sr)(hv:Sl w0 1 (.slice (some ⟨g,0,none⟩) m mc) m (R.map Sr.val))(hr:∀r∈R,Sl w0 1 r.val r.xs.length (r.xs.map (Value.int .i64)))(hm:m≤1000)(hb:(R.flatMap (·.xs)).length≤1000000):
 Calls Tryz.prog 106 #[.slice (some ⟨g,0,none⟩) m mc] w0 fun e w=>∃(ad:Option Addr) (c:Nat),e= .returned (.slice ad (R.flatMap (·.xs)).length c)∧St w0 w [own 3 1 ad (R.flatMap (·.xs)).length c ((R.flatMap (·.xs)).map (Value.int .i64))]:=by
 have hS:=St.start w0
 have hRl:R.length=m:=by have:=hv.1;simpa using this
 have HC:Hid (∀k r,k<m→R[k]? =some r→w0.cell? ⟨g,k,none⟩=some (.slice r.ad r.xs.length r.c)):=fun k r hk h=>by
  obtain ⟨_,a1,c1,e1,_,_,hor⟩:=hv
  cases e1
  rcases hor with h0|⟨b0,o0,e2,hc⟩
  ·omega
  cases e2
  have:=hc k (by omega)
  rw [Nat.zero_add,List.getElem?_map,h] at this
  exact this
 have HR:=AD hr
 have HF:Hid (J2 R m=R.flatMap (·.xs)):=by unfold Hid;unfold J2;rw [←hRl,List.take_length]
 have HL:Hid (∀k,(J2 R k).length≤1000000):=fun k=>Nat.le_trans (Wx R k) hb
 rw [←HF.out]
 clear hv hr hb
 go_enter Tryz.func106,Tryz.ntmps106
 repeat' (first
  | refine X0 ?_|(refine AS 10 ?_);(refine As AA (V.len Tryz.underlying22 rfl) ?_;go_step)|refine AG ?_;go_step|fail)
 go_loopg [3,11] m (fun gk sv iv w=>∃(k L:Nat),gk+k=m∧L=(J2 R k).length∧iv= .int .i64 k∧sv= .int .i64 L∧St w0 w [])
 case atStart=>exact ⟨0,0,by omega,rfl,rfl,rfl,hS⟩
 case round=>
  clear hS
  obtain ⟨k,L,hk,hL,rfl,rfl,hS⟩:=hrel
  have hL0:=HL.out k
  rw [←hL] at hL0
  by_cases hlt:k<m
  ·obtain ⟨r,hr⟩:∃r,R[k]? =some r:=⟨_,List.getElem?_eq_getElem (by omega)⟩
   have hc:=HC.out k r hlt hr
   have hf:=congrArg List.length (Ld R k r hr)
   rw [List.length_append,←hL] at hf
   have hL1:=HL.out (k+1)
   obtain ⟨N,hN⟩:∃N,r.xs.length=N:=⟨_,rfl⟩
   rw [hN] at hf hc
   have HFk:=AD hf
   rw [hf] at hL1
   clear hf hN hr
   repeat' (first
    | refine X0 ?_|refine X4 12 ?_|refine YJ 13 ?_|refine YH ?_|refine AG ?_;go_step|fail)
   repeat' (first
    | (refine AS 18 ?_);(refine Ak (.int _ (((L+N:Nat):Int))) (V.as (V.addI rfl rfl (by omega)) (by omega)) (by kernel_rfl) ?_;go_step)|refine X0 ?_|refine TH 17 ?_|refine X4 20 ?_|refine AG ?_;go_step|fail)
   repeat' (first
    | refine bn 22 ?_|refine X1 ?_|refine AG ?_;go_step|fail)
   go_roundg (gk-1)
   case measure=>omega
   case rel=>exact ⟨k+1,L+N,by omega,HFk.out.symm,by go_num,rfl,hS⟩
  obtain rfl:k=m:=by omega
  repeat' (first
   | refine X1 ?_|refine X4 12 ?_|refine AG ?_;go_step|fail)
  repeat' (first
   | (refine A3 133 ?_);refine A4 AA Tryz.call133 (UB _ L (by omega)) ?_;rintro e w ⟨ad,cc,rfl,hS2⟩;replace hS:=hS.call1 hS2;clear hS2;refine Ae ?_;go_step|refine X0 ?_|(refine AS 26 ?_);(refine As AA (V.len Tryz.underlying22 rfl) ?_;go_step)|refine AG ?_;go_step|fail)
  go_loopg [6,27] k (fun gk sv iv w=>∃(j M:Nat) (aa:Option Addr) (ca:Nat),gk+j=k∧M=(J2 R j).length∧iv= .int .i64 j∧sv= .slice aa M ca∧St w0 w [own 3 1 aa M ca ((J2 R j).map (Value.int .i64))])
  case atStart=>exact ⟨0,0,ad,cc,by omega,rfl,rfl,rfl,hS⟩
  case round=>
   clear hS
   obtain ⟨j,M,aa,ca,hj,hM,rfl,rfl,hS⟩:=hrel
   have hM0:=HL.out j
   rw [←hM] at hM0
   by_cases hlt2:j<k
   ·obtain ⟨r,hr⟩:∃r,R[j]? =some r:=⟨_,List.getElem?_eq_getElem (by omega)⟩
    have hc:=HC.out j r hlt2 hr
    have hsl:Sl w0 1 (.slice r.ad r.xs.length r.c) r.xs.length (r.xs.map (Value.int .i64)):=HR.out r (List.mem_of_getElem? hr)
    have hfe:=Ld R j r hr
    have hf:=congrArg List.length hfe
    rw [List.length_append,←hM] at hf
    have hM1:=HL.out (j+1)
    obtain ⟨N,hN⟩:∃N,r.xs.length=N:=⟨_,rfl⟩
    rw [hN] at hf hc hsl
    have HFk:=AD hf
    have HFE:=AD hfe
    rw [hf] at hM1
    clear hf hN hr hfe
    repeat' (first
     | (refine AS 34 ?_);(refine Ak (.int _ (((j+1:Nat):Int))) (V.as (V.addI rfl rfl (by omega)) (by omega)) (by kernel_rfl) ?_;go_step)|refine X0 ?_|refine X4 28 ?_|refine YJ 29 ?_|refine YH ?_|refine bP 33 ?_;clear hS;intro ad33 c33 w hS|refine AG ?_;go_step|fail)
    go_roundg (gk-1)
    case measure=>omega
    case rel=>exact ⟨j+1,M+N,_,_,by omega,HFk.out.symm,by go_num,rfl,by rw [HFE.out];exact hS.sub AV⟩
   obtain rfl:j=k:=by omega
   repeat' (first
    | refine X0 ?_|refine X4 28 ?_|refine AG ?_;go_step|fail)
   repeat' (first
    | refine AG ?_;go_step|fail)
   go_ret
   rw [←hM]
   exact ⟨aa,ca,rfl,hS⟩
end Go.Proofs.YtohacgmhmbijmaaGreatDoor
namespace Go.Proofs.YtohacgmhmbijmaaGreatDoor
attribute [local irreducible] Region.wanted
set_option linter.unusedVariables false
set_option maxRecDepth 100000
set_option maxHeartbeats 8000000
abbrev Pk:=Int×List Int
def Dj(l:List Pk):Int:=(l.map (·.1)).sum
def C9(l:List Pk):List Int:=l.flatMap (·.2)
theorem VY:Dj []=0:=rfl
theorem Bv(x:Pk)(l:List Pk):Dj (x::l)=x.1+Dj l:=by simp [Dj]
theorem O2(a b:List Pk):Dj (a++b)=Dj a+Dj b:=by simp [Dj]
theorem TA{a b:List Pk}(h:a.Perm b):Dj a=Dj b:=by
 induction h with
 | nil=>rfl
 | cons x _ ih=>simp [Bv,ih]
 | swap x y l=>simp only [Bv];omega
 | trans _ _ h1 h2=>rw [h1,h2]
theorem EF(x:Pk)(l:List Pk):C9 (x::l)=x.2++C9 l:=by simp [C9]
theorem CN(a b:List Pk):C9 (a++b)=C9 a++C9 b:=by simp [C9]
theorem En{a b:List Pk}(h:a.Perm b):(C9 a).Perm (C9 b):=h.flatMap_right _
def Vx(l:List Pk):Prop:=l.Pairwise (fun a b=>a.1≤b.1)
def C5(p:Pk×Pk):Pk:=(p.1.1+p.2.1,p.1.2++p.2.2)
def K2:List Pk→List (Pk×Pk)
 | a::b::l=>(a,b)::K2 l
 | _=>[]
def EU(l:List (Pk×Pk)):List Pk:=l.flatMap fun p=>[p.1,p.2]
def EM(l:List Pk):List Pk:=(K2 l).map C5
theorem Da:∀(l:List Pk),∃z,EU (K2 l)++z=l∧z.length≤1
 | []=>⟨[],rfl,by simp⟩
 | [a]=>⟨[a],rfl,by simp⟩
 | a::b::l=>by
   obtain ⟨z,h,hz⟩:=Da l
   exact ⟨z,by simp [K2,EU] at h⊢;exact h,hz⟩
theorem RX(l:List (Pk×Pk)):(EU l).length=2*l.length:=by
 induction l with
 | nil=>rfl
 | cons x l ih=>simp [EU] at ih⊢;omega
theorem XQ(l:List Pk):(K2 l).length=l.length/2:=by
 obtain ⟨z,h,hz⟩:=Da l
 have:=congrArg List.length h
 rw [List.length_append,RX] at this
 omega
theorem F4(l:List Pk):(EM l).length=l.length/2:=by simp [EM,XQ]
theorem S9(l:List (Pk×Pk)):Dj (l.map C5)=Dj (EU l):=by
 induction l with
 | nil=>rfl
 | cons x l ih=>simp only [List.map_cons,Bv,ih,C5,EU,List.flatMap_cons,List.cons_append,List.nil_append];simp only [EU] at*;omega
theorem KZ(l:List (Pk×Pk)):C9 (l.map C5)=C9 (EU l):=by
 induction l with
 | nil=>rfl
 | cons x l ih=>simp only [List.map_cons,EF,ih,C5,EU,List.flatMap_cons,List.cons_append,List.nil_append,List.append_assoc]
theorem IX{α β:Type}(f:α→β){L L0:List β}(h:L.Perm L0):∀M:List α,M.map f=L0→∃M':List α,M'.Perm M∧M'.map f=L:=by
 induction h with
 | nil=>intro M e;exact ⟨[],(by cases M with|nil=>exact List.Perm.refl _|cons=>cases e),rfl⟩
 | cons x _ ih=>
   intro M e
   cases M with
   | nil=>cases e
   | cons m M=>
     simp only [List.map_cons,List.cons.injEq] at e
     obtain ⟨M',h1,h2⟩:=ih M e.2
     exact ⟨m::M',h1.cons m,by simp [e.1,h2]⟩
 | swap x y l=>
   intro M e
   match M,e with
   | m1::m2::M,e=>
     simp only [List.map_cons,List.cons.injEq] at e
     exact ⟨m2::m1::M,List.Perm.swap _ _ _,by simp [e.1,e.2.1,e.2.2]⟩
 | trans _ _ h1 h2=>
   intro M e
   obtain ⟨M1,p1,e1⟩:=h2 M e
   obtain ⟨M2,p2,e2⟩:=h1 M1 e1
   exact ⟨M2,p2.trans p1,e2⟩
def BS(X R:List Pk):Prop:=∃Z,(X++Z).Perm R
theorem BS.take(R:List Pk)(m:Nat):BS (R.take m) R:=⟨R.drop m,by rw [List.take_append_drop]⟩
theorem BS.right{X R Q:List Pk}(h:BS X R)(p:R.Perm Q):BS X Q:=by
 obtain ⟨Z,hz⟩:=h;exact ⟨Z,hz.trans p⟩
theorem BS.app{X Y R Q:List Pk}(h:BS X R)(k:BS Y Q):BS (X++Y) (R++Q):=by
 obtain ⟨Z,hz⟩:=h;obtain ⟨U,hu⟩:=k
 refine ⟨Z++U,List.Perm.trans ?_ (hz.append hu)⟩
 rw [List.append_assoc,List.append_assoc]
 refine List.Perm.append_left X ?_
 rw [←List.append_assoc,←List.append_assoc]
 exact List.Perm.append_right U List.perm_append_comm
theorem BS.mem{X R:List Pk}(h:BS X R){x:Pk}(hx:x∈X):x∈R:=by
 obtain ⟨Z,hz⟩:=h;exact hz.mem_iff.1 (List.mem_append_left _ hx)
theorem BS.len{X R:List Pk}(h:BS X R):X.length≤R.length:=by
 obtain ⟨Z,hz⟩:=h;have:=hz.length_eq;rw [List.length_append] at this;omega
theorem BS.unpair{B R:List Pk}(h:BS B (EM R)):∃Y,BS Y R∧Y.length=2*B.length∧C9 Y=C9 B∧Dj Y=Dj B∧∃B',B'.map C5=B∧Y=EU B':=by
 obtain ⟨Z,hz⟩:=h
 obtain ⟨M,hp,hm⟩:=IX C5 hz (K2 R) rfl
 obtain ⟨B',Z',e,hb,hz'⟩:=List.map_eq_append_iff.1 hm
 obtain ⟨z,hu,_⟩:=Da R
 refine ⟨EU B',⟨EU Z'++z,?_⟩,by rw [RX,←hb,List.length_map],by rw [←hb,KZ],by rw [←hb,S9],B',hb,rfl⟩
 have h1:(EU M).Perm (EU (K2 R)):=hp.flatMap_right _
 have h2:EU M=EU B'++EU Z':=by rw [e];simp [EU]
 rw [←List.append_assoc,←h2]
 conv=>rhs;rw [←hu]
 exact h1.append_right z
theorem Kb:∀(R:List Pk),Vx R→(∀x∈R,0≤x.1)→∀(X:List Pk)(m:Nat),BS X R→m≤X.length→Dj (R.take m)≤Dj X:=by
 have nn:∀X:List Pk,(∀x∈X,0≤x.1)→0≤Dj X:=fun X h=>by
  induction X with
  | nil=>simp [Dj]
  | cons x X ih=>rw [Bv];have:=h x (by simp);have:=ih fun y hy=>h y (by simp [hy]);omega
 intro R
 induction R with
 | nil=>
   intro _ _ X m hX _
   have:X=[]:=by have:=hX.len;exact List.eq_nil_of_length_eq_zero (by simpa using this)
   subst this;simp [Dj]
 | cons r R ih=>
   intro hs h0 X m hX hm
   cases m with
   | zero=>simp only [List.take_zero,VY];exact nn X fun x hx=>h0 x (hX.mem hx)
   | succ m=>
     obtain ⟨hr,hs'⟩:=List.pairwise_cons.1 hs
     rw [List.take_succ_cons,Bv]
     obtain ⟨Z,hz⟩:=hX
     have hrm:r∈X++Z:=hz.mem_iff.2 (by simp)
     rcases List.mem_append.1 hrm with hx|hx
     ·have p:=List.perm_cons_erase hx
      have hz2:(X.erase r++Z).Perm R:=by
       have:(r::(X.erase r++Z)).Perm (r::R):=(p.symm.append_right Z).trans hz
       exact this.cons_inv
      have hl:=p.length_eq
      rw [List.length_cons] at hl
      have:=ih hs' (fun x hx=>h0 x (by simp [hx])) (X.erase r) m ⟨Z,hz2⟩ (by omega)
      rw [TA p,Bv];omega
     cases X with
     | nil=>simp at hm
     | cons x X=>
       have p:=List.perm_cons_erase hx
       have hz2:(X++(x::Z.erase r)).Perm R:=by
        have h1:(r::(X++(x::Z.erase r))).Perm (r::R):=by
         refine List.Perm.trans ?_ hz
         have a1:(X++x::Z.erase r).Perm (x::(X++Z.erase r)):=List.perm_middle
         have a2:(r::(X++x::Z.erase r)).Perm (r::x::(X++Z.erase r)):=a1.cons r
         refine a2.trans ((List.Perm.swap x r _).trans ?_)
         refine List.Perm.cons x ?_
         have a3:(r::(X++Z.erase r)).Perm (X++r::Z.erase r):=List.perm_middle.symm
         exact a3.trans (List.Perm.append_left X p.symm)
        exact h1.cons_inv
       have hxr:r.1≤x.1:=by
        have:x∈r::R:=hz.mem_iff.1 (by simp)
        rcases List.mem_cons.1 this with e|e
        ·rw [e];exact Int.le_refl _
        exact hr x e
       have:=ih hs' (fun x hx=>h0 x (by simp [hx])) X m ⟨_,hz2⟩ (by simp at hm;omega)
       rw [Bv];omega
inductive Ce(S:List Pk):Nat→List Pk→Prop
 | one (R:List Pk) (p:R.Perm S) (s:Vx R):Ce S 1 R
 | more {k:Nat} {R Q:List Pk} (h:Ce S k R) (p:Q.Perm (EM R++S)) (s:Vx Q):Ce S (k+1) Q
theorem Ce.srt{S R:List Pk}{k:Nat}(h:Ce S k R):Vx R:=by cases h<;>assumption
theorem Ce.nonneg{S R:List Pk}{k:Nat}(h0:∀x∈S,0≤x.1)(h:Ce S k R):∀x∈R,0≤x.1:=by
 induction h with
 | one R p _=>exact fun x hx=>h0 x (p.mem_iff.1 hx)
 | @more k R Q h p _ ih=>
   intro x hx
   rcases List.mem_append.1 (p.mem_iff.1 hx) with hx|hx
   ·obtain ⟨q,hq,rfl⟩:=List.mem_map.1 hx
    obtain ⟨z,hu,_⟩:=Da R
    have hm:∀y∈EU (K2 R),y∈R:=fun y hy=>by rw [←hu];exact List.mem_append_left _ hy
    have h1:=ih q.1 (hm _ (by simp only [EU,List.mem_flatMap];exact ⟨q,hq,by simp⟩))
    have h2:=ih q.2 (hm _ (by simp only [EU,List.mem_flatMap];exact ⟨q,hq,by simp⟩))
    simp only [C5];omega
   exact h0 x hx
theorem Ce.len{S R:List Pk}{k:Nat}(h:Ce S k R):R.length≤2*S.length:=by
 induction h with
 | one R p _=>have:=p.length_eq;omega
 | more h p _ ih=>have:=p.length_eq;rw [List.length_append,F4] at this;omega
theorem Ce.long{S R:List Pk}{k:Nat}(h:Ce S k R)(_h1:1≤S.length):2*S.length≤R.length+1+S.length/2^(k-1):=by
 induction h with
 | one R p _=>have:=p.length_eq;simp;omega
 | @more k R Q h p _ ih=>
   have:=p.length_eq;rw [List.length_append,F4] at this
   have hk:1≤k:=by cases h<;>omega
   have e:S.length/2^(k+1-1)=S.length/2^(k-1)/2:=by
    rw [Nat.div_div_eq_div_mul,←Nat.pow_succ,show (k-1).succ=k+1-1 by omega]
   rw [e];omega
def A8{α:Type}(f:α→Nat)(l:List α):Nat:=(l.map f).sum
theorem BD{α:Type}(f:α→Nat)(x:α)(l:List α):A8 f (x::l)=f x+A8 f l:=by simp [A8]
theorem Hi{α:Type}(f g:α→Nat)(l:List α):A8 (fun x=>f x+g x) l=A8 f l+A8 g l:=by
 induction l with
 | nil=>rfl
 | cons x l ih=>simp only [BD,ih];omega
theorem XD{α:Type}(f g:α→Nat)(l:List α)(h:∀x∈l,f x≤g x):A8 f l≤A8 g l:=by
 induction l with
 | nil=>exact Nat.le_refl _
 | cons x l ih=>have:=h x (by simp);have:=ih fun y hy=>h y (by simp [hy]);simp only [BD];omega
theorem CZ{α:Type}(f g:α→Nat)(l:List α)(h:∀x∈l,f x=g x):A8 f l=A8 g l:=by
 induction l with
 | nil=>rfl
 | cons x l ih=>have:=h x (by simp);have:=ih fun y hy=>h y (by simp [hy]);simp only [BD];omega
theorem Hk{α:Type}(f:α→Nat)(c:Nat)(l:List α):A8 (fun x=>f x*c) l=A8 f l*c:=by
 induction l with
 | nil=>simp [A8]
 | cons x l ih=>simp only [BD,ih,Nat.add_mul]
theorem UU{α:Type}(p:α→Bool)(l:List α):A8 (fun x=>if p x then 1 else 0) l=(l.filter p).length:=by
 induction l with
 | nil=>rfl
 | cons x l ih=>rw [BD,ih,List.filter_cons];by_cases h:p x=true<;>simp [h];omega
theorem Lh{α:Type}(f:α→Nat)(l:List α)(h:∀x∈l,f x=0):A8 f l=0:=by
 induction l with
 | nil=>rfl
 | cons x l ih=>have:=h x (by simp);have:=ih fun y hy=>h y (by simp [hy]);simp only [BD];omega
def D9(X:List Pk)(s:Int):Nat:=(C9 X).count s
structure IG(S:List Pk)(ss:List Int):Prop where
 syms:S.map (·.2)=ss.map fun s=>[s]
 nd:ss.Nodup
theorem IG.len{S:List Pk}{ss:List Int}(h:IG S ss):S.length=ss.length:=by
 have:=congrArg List.length h.syms;simpa using this
theorem IG.one{S:List Pk}{ss:List Int}(h:IG S ss):∀x∈S,∃s∈ss,x.2=[s]:=fun x hx=>by
 have:x.2∈S.map (·.2):=List.mem_map.2 ⟨x,hx,rfl⟩
 rw [h.syms] at this
 obtain ⟨s,hs,e⟩:=List.mem_map.1 this
 exact ⟨s,hs,e.symm⟩
theorem IG.syls{S:List Pk}{ss:List Int}(h:IG S ss):C9 S=ss:=by
 have:C9 S=(S.map (·.2)).flatten:=by simp [C9,List.flatMap]
 rw [this,h.syms]
 clear h this
 induction ss with
 | nil=>rfl
 | cons a l ih=>rw [List.map_cons,List.flatten_cons,ih];rfl
theorem Ce.pos{S R:List Pk}{k:Nat}{ss:List Int}(hS:IG S ss)(h:Ce S k R):∀x∈R,1≤x.2.length:=by
 induction h with
 | one R p _=>intro x hx;obtain ⟨s,_,e⟩:=hS.one x (p.mem_iff.1 hx);rw [e];simp
 | @more k R Q h p _ ih=>
   intro x hx
   rcases List.mem_append.1 (p.mem_iff.1 hx) with hx|hx
   ·obtain ⟨q,hq,rfl⟩:=List.mem_map.1 hx
    obtain ⟨z,hu,_⟩:=Da R
    have h1:=ih q.1 (by rw [←hu];exact List.mem_append_left _ (by simp only [EU,List.mem_flatMap];exact ⟨q,hq,by simp⟩))
    simp only [C5,List.length_append];omega
   obtain ⟨s,_,e⟩:=hS.one x hx;rw [e];simp
theorem BS.parts{S R Q X:List Pk}{k:Nat}{ss:List Int}(hS:IG S ss)(h:Ce S k R)(p:Q.Perm (EM R++S))(hX:BS X Q):
 ∃B A,BS B (EM R)∧BS A S∧X.Perm (B++A):=by
 obtain ⟨Z,hz⟩:=hX
 have hz:=hz.trans p
 have hpos:=h.pos hS
 have h1:∀x∈EM R,decide (2≤x.2.length)=true:=fun x hx=>by
  obtain ⟨q,hq,rfl⟩:=List.mem_map.1 hx
  obtain ⟨z,hu,_⟩:=Da R
  have e1:=hpos q.1 (by rw [←hu];exact List.mem_append_left _ (by simp only [EU,List.mem_flatMap];exact ⟨q,hq,by simp⟩))
  have e2:=hpos q.2 (by rw [←hu];exact List.mem_append_left _ (by simp only [EU,List.mem_flatMap];exact ⟨q,hq,by simp⟩))
  simp only [C5,List.length_append,decide_eq_true_eq];omega
 have h2:∀x∈S,decide (2≤x.2.length)=false:=fun x hx=>by obtain ⟨s,_,e⟩:=hS.one x hx;rw [e];simp
 have f1:=hz.filter (fun x=>decide (2≤x.2.length))
 have f2:=hz.filter (fun x=>!decide (2≤x.2.length))
 rw [List.filter_append,List.filter_append,List.filter_eq_self.2 h1,(List.filter_eq_nil_iff (l:=S)).2 (fun x hx=>by rw [h2 x hx];simp),List.append_nil] at f1
 rw [List.filter_append,List.filter_append,(List.filter_eq_nil_iff (l:=EM R)).2 (fun x hx=>by rw [h1 x hx];simp),(List.filter_eq_self (l:=S)).2 (fun x hx=>by rw [h2 x hx];rfl),List.nil_append] at f2
 exact ⟨_,_,⟨_,f1⟩,⟨_,f2⟩,(List.filter_append_perm _ X).symm⟩
theorem Q4(X Y:List Pk)(s:Int):D9 (X++Y) s=D9 X s+D9 Y s:=by simp [D9,CN]
theorem OH{X Y:List Pk}(h:X.Perm Y)(s:Int):D9 X s=D9 Y s:=(En h).count_eq s
theorem BS.single{A S:List Pk}{ss:List Int}(hS:IG S ss)(h:BS A S):(C9 A).Nodup∧(C9 A).length=A.length∧∀s∈C9 A,s∈ss:=by
 obtain ⟨Z,hz⟩:=h
 have hp:(C9 A++C9 Z).Perm ss:=by rw [←CN,←hS.syls];exact En hz
 refine ⟨(List.nodup_append.1 (hp.nodup_iff.2 hS.nd)).1,?_,fun s hs=>hp.mem_iff.1 (List.mem_append_left _ hs)⟩
 have:∀x∈A,x.2.length=1:=fun x hx=>by
  obtain ⟨s,_,e⟩:=hS.one x (hz.mem_iff.1 (List.mem_append_left _ hx));rw [e];rfl
 clear hp hz
 induction A with
 | nil=>rfl
 | cons x A ih=>rw [EF,List.length_append,this x (by simp),ih fun y hy=>this y (by simp [hy]),List.length_cons];omega
theorem NA(k:Nat)(h:1≤k):2^k=2*2^(k-1):=by
 cases k with
 | zero=>omega
 | succ k=>rw [Nat.pow_succ,Nat.add_sub_cancel];omega
theorem Ce.kraft{S R:List Pk}{k:Nat}{ss:List Int}(hS:IG S ss)(h:Ce S k R):∀X,BS X R→
 (∀s,D9 X s≤k)∧X.length*2^(k-1)≤A8 (fun s=>2^k-2^(k-D9 X s)) ss∧(∀s∈C9 X,s∈ss):=by
 have sums:∀(L:List Int),L.Nodup→(∀s∈L,s∈ss)→A8 (fun s=>L.count s) ss=L.length:=by
  intro L
  induction L with
  | nil=>intro _ _;exact Lh _ _ fun s _=>rfl
  | cons x L ih=>
    intro hn hm
    obtain ⟨h1,h2⟩:=List.nodup_cons.1 hn
    have:=ih h2 fun s hs=>hm s (by simp [hs])
    have e:A8 (fun s=>(x::L).count s) ss=A8 (fun s=>L.count s) ss+A8 (fun s=>if s=x then 1 else 0) ss:=by
     rw [←Hi]
     refine CZ _ _ _ fun s _=>?_
     rw [List.count_cons];by_cases h:s=x
     ·subst h;simp
     have:(x==s)=false:=by simp;exact fun e=>h e.symm
     simp [h,this]
    have e2:A8 (fun s=>if s=x then 1 else 0) ss=1:=by
     have hx:=hm x (by simp)
     have e3:A8 (fun s=>if s=x then 1 else 0) ss=ss.count x:=by
      clear e this ih h1 h2 hn hm hx h hS
      induction ss with
      | nil=>rfl
      | cons a l ih=>rw [BD,ih,List.count_cons];by_cases h:a=x<;>simp [h];omega
     rw [e3]
     have a1:=List.nodup_iff_count.1 hS.nd x
     have a2:=List.count_pos_iff.2 hx
     omega
    rw [e,e2,this,List.length_cons]
 induction h with
 | one R p _=>
   intro X hX
   obtain ⟨h1,h2,h3⟩:=(hX.right p).single hS
   have hle:∀s,D9 X s≤1:=fun s=>List.nodup_iff_count.1 h1 s
   refine ⟨hle,?_,h3⟩
   have:=sums _ h1 h3
   have e:A8 (fun s=>2^1-2^(1-D9 X s)) ss=A8 (fun s=>(C9 X).count s) ss:=CZ _ _ _ fun s _=>by
    have:=hle s
    have e:D9 X s=(C9 X).count s:=rfl
    rcases Nat.lt_or_ge (D9 X s) 1 with h|h
    ·rw [←e,show D9 X s=0 by omega]
    rw [←e,show D9 X s=1 by omega]
   rw [e,this,h2];simp
 | @more k R Q h p _ ih=>
   intro X hX
   obtain ⟨B,A,hB,hA,hp⟩:=BS.parts hS h p hX
   obtain ⟨Y,hY,hYl,hYs,_,_⟩:=hB.unpair
   obtain ⟨i1,i2,i3⟩:=ih Y hY
   obtain ⟨a1,a2,a3⟩:=hA.single hS
   have hk:1≤k:=by cases h<;>omega
   have hlx:∀s,D9 X s=D9 Y s+(C9 A).count s:=fun s=>by rw [OH hp,Q4];simp only [D9,hYs]
   have ha:∀s,(C9 A).count s≤1:=fun s=>List.nodup_iff_count.1 a1 s
   refine ⟨fun s=>by rw [hlx];have:=i1 s;have:=ha s;omega,?_,fun s hs=>?_⟩
   ·have hs:=sums _ a1 a3
    rw [a2] at hs
    have key:A8 (fun s=>(C9 A).count s*2^k+(2^k-2^(k-D9 Y s))) ss≤A8 (fun s=>2^(k+1)-2^(k+1-D9 X s)) ss:=by
     refine XD _ _ _ fun s _=>?_
     rw [hlx]
     have h1:=i1 s
     have h2:=ha s
     have e1:2^(k+1)=2*2^k:=by rw [Nat.pow_succ];omega
     have e3:2^(k-D9 Y s)≤2^k:=Nat.pow_le_pow_right (by omega) (by omega)
     rcases Nat.lt_or_ge ((C9 A).count s) 1 with h|h
     ·rw [show (C9 A).count s=0 by omega,Nat.zero_mul,Nat.zero_add,Nat.add_zero (D9 Y s),e1]
      have e2:2^(k+1-D9 Y s)=2*2^(k-D9 Y s):=by rw [show k+1-D9 Y s=(k-D9 Y s)+1 by omega,Nat.pow_succ];omega
      rw [e2];omega
     rw [show (C9 A).count s=1 by omega,Nat.one_mul,e1,show k+1-(D9 Y s+1)=k-D9 Y s by omega]
     omega
    rw [Hi,Hk,hs] at key
    have hl:=hp.length_eq
    rw [List.length_append] at hl
    have e4:=NA k hk
    rw [hl,Nat.add_sub_cancel,Nat.add_mul]
    rw [hYl] at i2
    have e5:B.length*2^k=2*B.length*2^(k-1):=by rw [e4,←Nat.mul_assoc];congr 1;omega
    omega
   have:=(En hp).mem_iff.1 hs
   rw [CN,List.mem_append] at this
   rcases this with h|h
   ·exact i3 s (hYs▸ h)
   exact a3 s h
def isum{α:Type}(f:α→Int)(l:List α):Int:=(l.map f).sum
theorem CD{α:Type}(f:α→Int)(x:α)(l:List α):isum f (x::l)=f x+isum f l:=by simp [isum]
theorem UD{α:Type}(f g:α→Int)(l:List α):isum (fun x=>f x+g x) l=isum f l+isum g l:=by
 induction l with
 | nil=>rfl
 | cons x l ih=>simp only [CD,ih];omega
theorem D7{α:Type}(f g:α→Int)(l:List α)(h:∀x∈l,f x=g x):isum f l=isum g l:=by
 induction l with
 | nil=>rfl
 | cons x l ih=>have:=h x (by simp);have:=ih fun y hy=>h y (by simp [hy]);simp only [CD];omega
theorem IS{α:Type}(f:α→Int)(l:List α)(h:∀x∈l,f x=0):isum f l=0:=by
 induction l with
 | nil=>rfl
 | cons x l ih=>have:=h x (by simp);have:=ih fun y hy=>h y (by simp [hy]);simp only [CD];omega
theorem ST{α:Type}(f:α→Nat){l m:List α}(h:l.Perm m):A8 f l=A8 f m:=by
 induction h with
 | nil=>rfl
 | cons x _ ih=>simp [BD,ih]
 | swap x y l=>simp only [BD];omega
 | trans _ _ h1 h2=>rw [h1,h2]
theorem Iz{α:Type}(f:α→Int)(l m:List α):isum f (l++m)=isum f l+isum f m:=by simp [isum]
theorem Fa{α:Type}(f:α→Nat)(l m:List α):A8 f (l++m)=A8 f l+A8 f m:=by simp [A8]
theorem Ce.weigh{S R:List Pk}{k:Nat}(w:Int→Int)(hw:∀x∈S,x.1=isum w x.2)(h:Ce S k R):∀x∈R,x.1=isum w x.2:=by
 induction h with
 | one R p _=>exact fun x hx=>hw x (p.mem_iff.1 hx)
 | @more k R Q h p _ ih=>
   intro x hx
   rcases List.mem_append.1 (p.mem_iff.1 hx) with hx|hx
   ·obtain ⟨q,hq,rfl⟩:=List.mem_map.1 hx
    obtain ⟨z,hu,_⟩:=Da R
    have h1:=ih q.1 (by rw [←hu];exact List.mem_append_left _ (by simp only [EU,List.mem_flatMap];exact ⟨q,hq,by simp⟩))
    have h2:=ih q.2 (by rw [←hu];exact List.mem_append_left _ (by simp only [EU,List.mem_flatMap];exact ⟨q,hq,by simp⟩))
    simp only [C5,Iz];omega
   exact hw x hx
theorem O3(w:Int→Int):∀(X:List Pk),(∀x∈X,x.1=isum w x.2)→Dj X=isum w (C9 X)
 | [],_=>rfl
 | x::X,h=>by rw [Bv,EF,Iz,h x (by simp),O3 w X fun y hy=>h y (by simp [hy])]
theorem J5(w:Int→Int)(ss:List Int)(hn:ss.Nodup):∀(L:List Int),(∀s∈L,s∈ss)→isum w L=isum (fun s=>w s*(L.count s:Nat)) ss
 | [],_=>(IS _ _ fun s _=>by simp).symm
 | x::L,h=>by
   rw [CD,J5 w ss hn L fun s hs=>h s (by simp [hs])]
   have e:isum (fun s=>w s*((x::L).count s:Nat)) ss=isum (fun s=>w s*(L.count s:Nat)) ss+isum (fun s=>if s=x then w s else 0) ss:=by
    rw [←UD]
    refine D7 _ _ _ fun s _=>?_
    rw [List.count_cons];by_cases h:s=x
    ·subst h;simp [Int.mul_add]
    have:(x==s)=false:=by simp;exact fun e=>h e.symm
    simp [h,this]
   have hx:=h x (by simp)
   have e2:isum (fun s=>if s=x then w s else 0) ss=w x:=by
    clear e h
    induction ss with
    | nil=>cases hx
    | cons a l ih=>
      obtain ⟨h1,h2⟩:=List.nodup_cons.1 hn
      rw [CD]
      by_cases ha:a=x
      ·subst ha
       rw [if_pos rfl,IS _ l fun s hs=>by rw [if_neg];intro e;exact h1 (e▸ hs)];omega
      rw [if_neg ha,ih h2 ((List.mem_cons.1 hx).resolve_left (fun e=>ha e.symm))];omega
   rw [e,e2];omega
def fN(K l:Nat):Nat→Nat
 | 0=>0
 | k+1=>fN K l k+(if K≤l+k then 2^k else 0)
def fC(K l:Nat):Nat→Nat
 | 0=>0
 | k+1=>fC K l k+(if K≤l+k then 1 else 0)
theorem cB(l:Nat)(h:l≤16):fN 16 l 16+2^(16-l)=2^16:=by
 have:∀l,l<17→fN 16 l 16+2^(16-l)=2^16:=by decide
 exact this l (by omega)
theorem cA(l:Nat)(h:l≤16):fC 16 l 16=l:=by
 have:∀l,l<17→fC 16 l 16=l:=by decide
 exact this l (by omega)
theorem KH:∀(R:List Pk)(t:Nat),2*t≤R.length→Dj ((EM R).take t)=Dj (R.take (2*t))
 | _,0,_=>by simp
 | a::b::l,t+1,h=>by
   have ih:=KH l t (by simp at h;omega)
   rw [show 2*(t+1)=2*t+1+1 by omega,List.take_succ_cons,List.take_succ_cons,Bv,Bv,←ih]
   simp only [EM,K2,List.map_cons,List.take_succ_cons,Bv,C5];omega
 | [a],t+1,h=>by simp at h;omega
 | [],t+1,h=>by simp at h
theorem Ce.lower{S R:List Pk}{k:Nat}(K:Nat)(len:Pk→Nat)(h0:∀x∈S,0≤x.1)(h:Ce S k R):
 ∃X,BS X R∧X.length=A8 (fun x=>fN K (len x) k) S/2^(k-1)∧Dj X≤isum (fun x=>x.1*(fC K (len x) k:Nat)) S:=by
 have sel:∀k,A8 (fun x=>fN K (len x) (k+1)) S=A8 (fun x=>fN K (len x) k) S+(S.filter fun x=>decide (K≤len x+k)).length*2^k∧
  isum (fun x=>x.1*(fC K (len x) (k+1):Nat)) S=isum (fun x=>x.1*(fC K (len x) k:Nat)) S+Dj (S.filter fun x=>decide (K≤len x+k)):=fun k=>by
  clear h h0
  induction S with
  | nil=>exact ⟨by simp [A8],by simp [isum,Dj]⟩
  | cons x S ih=>
    simp only [BD,CD,List.filter_cons]
    rw [ih.1,ih.2]
    by_cases hx:K≤len x+k
    ·simp only [fN,fC,hx,if_true,decide_true,List.length_cons,Bv,Nat.add_mul,Nat.one_mul]
     refine ⟨by omega,?_⟩
     push_cast;rw [Int.mul_add];omega
    simp only [fN,fC,hx,if_false,decide_false,Bool.false_eq_true]
    exact ⟨by omega,by simp;omega⟩
 have filt:∀k,BS (S.filter fun x=>decide (K≤len x+k)) S:=fun k=>⟨_,List.filter_append_perm _ S⟩
 induction h with
 | one R p _=>
   refine ⟨_,(filt 0).right p.symm,?_,?_⟩
   ·rw [(sel 0).1,Lh (fun x=>fN K (len x) 0) S fun _ _=>rfl];simp
   rw [(sel 0).2,IS (fun x=>x.1*(fC K (len x) 0:Nat)) S fun _ _=>by simp [fC]];omega
 | @more k R Q h p _ ih=>
   obtain ⟨X,hX,hl,hw⟩:=ih
   have hk:1≤k:=by cases h<;>omega
   have ht:=hX.len
   refine ⟨_,((BS.take (EM R) (X.length/2)).app (filt k)).right p.symm,?_,?_⟩
   ·rw [(sel k).1,List.length_append,List.length_take,F4,Nat.min_eq_left (by omega),Nat.add_sub_cancel,Nat.add_mul_div_right _ _ (Nat.two_pow_pos k),hl,Nat.div_div_eq_div_mul,←Nat.pow_succ,show (k-1).succ=k by omega]
   rw [(sel k).2,O2,KH R _ (by omega)]
   have:=Kb R h.srt (h.nonneg h0) X (2*(X.length/2)) hX (by omega)
   omega
theorem Hp{R:List Pk}{q:Pk×Pk}(h:q∈K2 R):q.1∈R∧q.2∈R:=by
 obtain ⟨z,hu,_⟩:=Da R
 exact ⟨by rw [←hu];exact List.mem_append_left _ (by simp only [EU,List.mem_flatMap];exact ⟨q,h,by simp⟩),by rw [←hu];exact List.mem_append_left _ (by simp only [EU,List.mem_flatMap];exact ⟨q,h,by simp⟩)⟩
theorem RD:∀(R:List Pk),Vx R→(K2 R).Pairwise (fun q p=>q.2.1≤p.1.1)∧∀q∈K2 R,q.1.1≤q.2.1
 | [],_=>⟨List.Pairwise.nil,fun q h=>by cases h⟩
 | [a],_=>⟨List.Pairwise.nil,fun q h=>by cases h⟩
 | a::b::l,h=>by
   obtain ⟨h1,h2⟩:=List.pairwise_cons.1 h
   obtain ⟨h3,h4⟩:=List.pairwise_cons.1 h2
   obtain ⟨i1,i2⟩:=RD l h4
   refine ⟨List.pairwise_cons.2 ⟨fun q hq=>h3 _ (Hp hq).1,i1⟩,fun q hq=>?_⟩
   rcases List.mem_cons.1 hq with rfl|hq
   ·exact h1 _ (by simp)
   exact i2 q hq
def bB(C Z R:List Pk):Prop:=(C++Z).Perm R∧∀p∈C,∀q∈Z,p.1≤q.1
theorem bB.take{R:List Pk}(h:Vx R)(m:Nat):bB (R.take m) (R.drop m) R:=
 ⟨by rw [List.take_append_drop],fun p hp q hq=>by
  have:(R.take m++R.drop m).Pairwise (fun a b=>a.1≤b.1):=by rw [List.take_append_drop];exact h
  exact (List.pairwise_append.1 this).2.2 p hp q hq⟩
theorem Uj:∀(R:List Pk),Vx R→∀z,EU (K2 R)++z=R→∀y∈z,∀x∈EU (K2 R),x.1≤y.1:=fun R h z e y hy x hx=>by
 have:(EU (K2 R)++z).Pairwise (fun a b=>a.1≤b.1):=by rw [e];exact h
 exact (List.pairwise_append.1 this).2.2 x hx y hy
theorem Ce.order{S R:List Pk}{k:Nat}{ss:List Int}(hS:IG S ss)(w:Int→Int)(hw:∀x∈S,x.1=isum w x.2)(h:Ce S k R){a b:Int}(hb:b∈ss)(hab:w b<w a):
 ∀C Z,bB C Z R→D9 C a≤D9 C b:=by
 have single:∀C Z,(C++Z).Perm S→(∀p∈C,∀q∈Z,p.1≤q.1)→(C9 C).count a≤(C9 C).count b:=by
  intro C Z hp hl
  have hsp:(C9 C++C9 Z).Perm ss:=by rw [←CN,←hS.syls];exact En hp
  have hn:=hsp.nodup_iff.2 hS.nd
  have h1:(C9 C).count a≤1:=List.nodup_iff_count.1 (List.nodup_append.1 hn).1 a
  by_cases ha:a∈C9 C
  ·have hbm:=hsp.mem_iff.2 hb
   rcases List.mem_append.1 hbm with hbC|hbZ
   ·have:=List.count_pos_iff.2 hbC;omega
   exfalso
   obtain ⟨x,hx,hax⟩:=List.mem_flatMap.1 ha
   obtain ⟨y,hy,hby⟩:=List.mem_flatMap.1 hbZ
   have hxS:=hp.mem_iff.1 (List.mem_append_left _ hx)
   have hyS:=hp.mem_iff.1 (List.mem_append_right _ hy)
   obtain ⟨s,_,es⟩:=hS.one x hxS
   obtain ⟨t,_,et⟩:=hS.one y hyS
   rw [es] at hax;rw [et] at hby
   simp at hax hby
   subst hax;subst hby
   have w1:=hw x hxS
   have w2:=hw y hyS
   rw [es] at w1;rw [et] at w2
   simp [isum] at w1 w2
   have:=hl x hx y hy
   omega
  rw [List.count_eq_zero.2 ha];omega
 induction h with
 | one R p _=>exact fun C Z hL=>single C Z (hL.1.trans p) hL.2
 | @more k R Q h p _ ih=>
   intro C Z hL
   obtain ⟨hp,hl⟩:=hL
   have hz:=hp.trans p
   have hpos:=h.pos hS
   have h1:∀x∈EM R,decide (2≤x.2.length)=true:=fun x hx=>by
    obtain ⟨q,hq,rfl⟩:=List.mem_map.1 hx
    have e1:=hpos q.1 (Hp hq).1
    have e2:=hpos q.2 (Hp hq).2
    simp only [C5,List.length_append,decide_eq_true_eq];omega
   have h2:∀x∈S,decide (2≤x.2.length)=false:=fun x hx=>by obtain ⟨s,_,e⟩:=hS.one x hx;rw [e];simp
   have f1:=hz.filter (fun x=>decide (2≤x.2.length))
   have f2:=hz.filter (fun x=>!decide (2≤x.2.length))
   rw [List.filter_append,List.filter_append,List.filter_eq_self.2 h1,(List.filter_eq_nil_iff (l:=S)).2 (fun x hx=>by rw [h2 x hx];simp),List.append_nil] at f1
   rw [List.filter_append,List.filter_append,(List.filter_eq_nil_iff (l:=EM R)).2 (fun x hx=>by rw [h1 x hx];simp),(List.filter_eq_self (l:=S)).2 (fun x hx=>by rw [h2 x hx];rfl),List.nil_append] at f2
   have hC:=(List.filter_append_perm (fun x:Pk=>decide (2≤x.2.length)) C).symm
   obtain ⟨M,hM,hm⟩:=IX C5 f1 (K2 R) rfl
   obtain ⟨B,B',e,hb1,hb2⟩:=List.map_eq_append_iff.1 hm
   obtain ⟨z,hu,_⟩:=Da R
   obtain ⟨s1,s2⟩:=RD R h.srt
   have hpw:(B++B').Pairwise (fun q p=>q.2.1≤p.1.1∨p.2.1≤q.1.1):=by
    rw [←e]
    exact (List.Perm.pairwise_iff (R:=fun (q p:Pk×Pk)=>q.2.1≤p.1.1∨p.2.1≤q.1.1) (fun hh=>hh.symm) hM).2 (s1.imp Or.inl)
   have hcross:=(List.pairwise_append.1 hpw).2.2
   have hmem:∀q,q∈B++B'→q∈K2 R:=fun q hq=>hM.mem_iff.1 (e▸ hq)
   have hlow:bB (EU B) (EU B'++z) R:=by
    refine ⟨?_,?_⟩
    ·rw [←List.append_assoc]
     have h3:(EU M).Perm (EU (K2 R)):=hM.flatMap_right _
     have h4:EU M=EU B++EU B':=by rw [e];simp [EU]
     rw [←h4]
     conv=>rhs;rw [←hu]
     exact h3.append_right z
    intro y hy y' hy'
    simp only [EU,List.mem_flatMap] at hy
    obtain ⟨q,hq,hyq⟩:=hy
    have hqR:=hmem q (List.mem_append_left _ hq)
    rcases List.mem_append.1 hy' with hy'|hy'
    ·simp only [EU,List.mem_flatMap] at hy'
     obtain ⟨q',hq',hyq'⟩:=hy'
     have hqR':=hmem q' (List.mem_append_right _ hq')
     have c1:=s2 q hqR
     have c2:=s2 q' hqR'
     have c3:=hcross q hq q' hq'
     have c4:(C5 q).1≤(C5 q').1:=by
      refine hl _ ?_ _ ?_
      ·exact (List.mem_filter.1 (hb1▸ List.mem_map.2 ⟨q,hq,rfl⟩)).1
      exact (List.mem_filter.1 (hb2▸ List.mem_map.2 ⟨q',hq',rfl⟩)).1
     simp only [C5] at c4
     simp at hyq hyq'
     rcases hyq with rfl|rfl<;>rcases hyq' with rfl|rfl<;>rcases c3 with c3|c3<;>omega
    exact Uj R h.srt z hu y' hy' y (by simp only [EU,List.mem_flatMap];exact ⟨q,hqR,hyq⟩)
   have i1:=ih _ _ hlow
   have e1:∀s,D9 C s=D9 (EU B) s+(C9 (C.filter fun x=>!decide (2≤x.2.length))).count s:=fun s=>by
    rw [OH hC,Q4];simp only [D9];rw [←hb1,KZ]
   rw [e1,e1]
   have:=single _ _ f2 fun p hp q hq=>hl p (List.mem_filter.1 hp).1 q (List.mem_filter.1 hq).1
   omega
theorem Gf{α:Type}(l:List α):A8 (fun _=>1) l=l.length:=by
 induction l with
 | nil=>rfl
 | cons a l ih=>rw [BD,ih,List.length_cons];omega
theorem Rl{S R:List Pk}{ss:List Int}(hS:IG S ss)(w:Int→Int)(hw:∀x∈S,x.1=isum w x.2)(h0:∀s∈ss,0≤w s)(h1:1≤ss.length)(h2:ss.length<32768)(hR:Ce S 16 R):
 2*ss.length-2≤R.length∧
 (∀s,D9 (R.take (2*ss.length-2)) s≤16)∧(∀s,s∉ss→D9 (R.take (2*ss.length-2)) s=0)∧
 A8 (fun s=>2^(16-D9 (R.take (2*ss.length-2)) s)) ss≤2^16∧
 (∀len:Int→Nat,(∀s∈ss,len s≤16)→A8 (fun s=>2^(16-len s)) ss≤2^16→isum (fun s=>w s*(D9 (R.take (2*ss.length-2)) s:Nat)) ss≤isum (fun s=>w s*(len s:Nat)) ss)∧
 (∀a b,b∈ss→w b<w a→D9 (R.take (2*ss.length-2)) a≤D9 (R.take (2*ss.length-2)) b):=by
 have hSl:=hS.len
 have hlong:=hR.long (by omega)
 have hd:S.length/2^(16-1)=0:=Nat.div_eq_of_lt (by omega)
 rw [hd] at hlong
 have hlen:2*ss.length-2≤R.length:=by omega
 obtain ⟨k1,k2,k3⟩:=hR.kraft hS _ (BS.take R (2*ss.length-2))
 have h0S:∀x∈S,0≤x.1:=fun x hx=>by
  obtain ⟨s,hs,e⟩:=hS.one x hx
  have:=hw x hx;rw [e] at this;simp [isum] at this
  have:=h0 s hs;omega
 refine ⟨hlen,k1,fun s hs=>List.count_eq_zero.2 fun hm=>hs (k3 s hm),?_,?_,fun a b hb hab=>hR.order hS w hw hb hab _ _ (bB.take hR.srt _)⟩
 ·rw [List.length_take,Nat.min_eq_left hlen] at k2
  have e:A8 (fun s=>2^16-2^(16-D9 (R.take (2*ss.length-2)) s)) ss+A8 (fun s=>2^(16-D9 (R.take (2*ss.length-2)) s)) ss=ss.length*2^16:=by
   rw [←Hi,CZ _ (fun _=>1*2^16) ss fun s _=>?_,Hk,Gf]
   ·have:2^(16-D9 (R.take (2*ss.length-2)) s)≤2^16:=Nat.pow_le_pow_right (by omega) (by omega)
    omega
  omega
 intro len hl hk
 obtain ⟨X,hX,hXl,hXw⟩:=hR.lower 16 (fun x=>len (x.2.headD 0)) h0S
 have conv1:A8 (fun x:Pk=>fN 16 (len (x.2.headD 0)) 16) S=A8 (fun s=>fN 16 (len s) 16) ss:=by
  have:S.map (fun x:Pk=>fN 16 (len (x.2.headD 0)) 16)=(S.map (·.2)).map fun l=>fN 16 (len (l.headD 0)) 16:=by rw [List.map_map];rfl
  simp only [A8];rw [this,hS.syms,List.map_map];rfl
 have conv2:isum (fun x:Pk=>x.1*(fC 16 (len (x.2.headD 0)) 16:Nat)) S=isum (fun s=>w s*(len s:Nat)) ss:=by
  have e1:S.map (fun x:Pk=>x.1*(fC 16 (len (x.2.headD 0)) 16:Nat))=(S.map (·.2)).map fun l=>isum w l*(fC 16 (len (l.headD 0)) 16:Nat):=by
   rw [List.map_map];exact List.map_congr_left fun x hx=>by simp only [Function.comp];rw [hw x hx]
  simp only [isum] at e1⊢;rw [e1,hS.syms,List.map_map]
  have:=D7 (fun s=>(List.map w [s]).sum*(fC 16 (len s) 16:Nat)) (fun s=>w s*(len s:Nat)) ss fun s hs=>by rw [cA _ (hl s hs)];simp
  simp only [isum] at this
  exact this
 rw [conv1] at hXl
 rw [conv2] at hXw
 have e:A8 (fun s=>fN 16 (len s) 16) ss+A8 (fun s=>2^(16-len s)) ss=ss.length*2^16:=by
  rw [←Hi,CZ _ (fun _=>1*2^16) ss fun s hs=>by rw [cB _ (hl s hs),Nat.one_mul],Hk,Gf]
 have hm:2*ss.length-2≤X.length:=by
  rw [hXl,Nat.le_div_iff_mul_le (Nat.two_pow_pos _)]
  rw [show (2:Nat)^16=65536 from rfl] at e hk
  rw [show (16:Nat)-1=15 from rfl,show (2:Nat)^15=32768 from rfl]
  generalize A8 (fun s=>fN 16 (len s) 16) ss=A at e⊢
  generalize A8 (fun s=>2^(16-len s)) ss=B at e hk
  clear hXl hXw hX conv1 conv2 hd hlong hlen k1 k2 k3 hl
  omega
 have:=Kb R hR.srt (hR.nonneg h0S) X _ hX hm
 have wt:Dj (R.take (2*ss.length-2))=isum (fun s=>w s*(D9 (R.take (2*ss.length-2)) s:Nat)) ss:=by
  rw [O3 w _ fun x hx=>hR.weigh w hw x (List.mem_of_mem_take hx),J5 w ss hS.nd _ k3];rfl
 omega
theorem I2{α:Type}(f:α→Nat){l:List α}{x:α}(h:x∈l):f x≤A8 f l:=by
 induction l with
 | nil=>cases h
 | cons a l ih=>rw [BD];rcases List.mem_cons.1 h with rfl|h;omega;have:=ih h;omega
theorem UV{α:Type}(f:α→Nat){l:List α}{x y:α}(hx:x∈l)(hy:y∈l)(hn:x≠y):f x+f y≤A8 f l:=by
 induction l with
 | nil=>cases hx
 | cons a l ih=>
   rw [BD]
   rcases List.mem_cons.1 hx with e1|hx<;>rcases List.mem_cons.1 hy with e2|hy
   ·exact absurd (e1.trans e2.symm) hn
   ·have:=I2 f hy;rw [e1];omega
   ·have:=I2 f hx;rw [e2];omega
   have:=ih hx hy;omega
theorem SK{ss:List Int}{f:Int→Nat}(hk:A8 (fun s=>2^(16-f s)) ss≤2^16){a b:Int}(ha:a∈ss)(hb:b∈ss)(hab:a≠b):1≤f a:=by
 have h1:2^(16-f a)+2^(16-f b)≤A8 (fun s=>2^(16-f s)) ss:=UV (fun s=>2^(16-f s)) ha hb hab
 rcases Nat.lt_or_ge (f a) 1 with h|h
 ·have:f a=0:=by omega
  rw [this] at h1
  have:1≤2^(16-f b):=Nat.one_le_two_pow
  omega
 exact h
end Go.Proofs.YtohacgmhmbijmaaGreatDoor
namespace Go.Proofs.YtohacgmhmbijmaaGreatDoor
attribute [local irreducible] Region.wanted
open Go.RowKit
set_option linter.unusedVariables false
set_option maxRecDepth 100000
set_option maxHeartbeats 8000000
theorem Na(w:World)(n:Int):Calls Tryz.prog 130 #[.int .i64 n] w fun e w'=>e= .returned (.bool (decide (n<0)||decide (9999<n)))∧w=w':=by
 by_cases h:n<0
 ·have h2:decide (n<0)=true:=by simpa using h
  rw [h2]
  go_enter Tryz.func130,Tryz.ntmps130
  go_wp2_with fail
  go_ret
  exact ⟨rfl,rfl⟩
 have h2:decide (n<0)=false:=by simpa using h
 rw [h2,Bool.false_or]
 have h3:0≤n:=by omega
 clear h
 go_enter Tryz.func130,Tryz.ntmps130
 go_wp2_with fail
 go_ret
 exact ⟨rfl,rfl⟩
def bE(c:List Int):Int:=if 256<c.length then 2 else if Bx c 0 9999 then 0 else 1
theorem Jo(w0:World)(c:List Int)(ad:Option Addr)(n cap:Nat)(hv:Sl w0 1 (.slice ad n cap) n (c.map (Value.int .i64)))(hn:n≤9223372036854775807):
 Calls Tryz.prog 102 #[.slice ad n cap] w0 fun e w=>e= .returned (.int .i64 (bE c))∧Al w0 w:=by
 have hl:c.length=n:=by have:=hv.1;simpa using this
 have hS:=St.start w0
 have HC:=AD (fun (w:World)(hE:Al w0 w)=>BG w (.slice ad n cap) c (by unfold NU;rw [hl];exact hv.ext hE) 130 #[] (fun n=>decide (n<0)||decide (9999<n)) Tryz.call130 (fun m=>Na w m))
 obtain ⟨B,hB⟩:∃B,c.any (fun n=>decide (n<0)||decide (9999<n))=B:=⟨_,rfl⟩
 have hE:bE c=if 256<n then 2 else if B then 1 else 0:=by
  unfold bE Bx;rw [hl,hB]
  cases B<;>rfl
 rw [hB] at HC
 rw [hE]
 clear hE hB hv
 by_cases h256:256<n
 ·rw [if_pos h256]
  go_enter Tryz.func102,Tryz.ntmps102
  repeat' (first
   | refine X0 ?_|refine TH 5 ?_|refine ME 6 ?_|refine AG ?_;go_step|fail)
  go_ret
  exact ⟨rfl,hS.1⟩
 rw [if_neg h256]
 cases B with
 | true=>
   rw [if_pos rfl]
   go_enter Tryz.func102,Tryz.ntmps102
   repeat' (first
    | refine X0 ?_|refine TH 5 ?_|refine ME 6 ?_|refine AG ?_;go_step|fail)
   repeat' (first
    | (refine A3 76 ?_);refine A4 AA Tryz.call76 (HC.out _ hS.1) ?_;rintro e w ⟨rfl,rfl⟩;refine Ae ?_;go_step|refine X8 ?_|refine AG ?_;go_step|fail)
   all_goals go_ret
   all_goals exact ⟨rfl,hS.1⟩
 | false=>
   rw [if_neg (by decide)]
   go_enter Tryz.func102,Tryz.ntmps102
   repeat' (first
    | refine X0 ?_|refine TH 5 ?_|refine ME 6 ?_|refine AG ?_;go_step|fail)
   repeat' (first
    | (refine A3 76 ?_);refine A4 AA Tryz.call76 (HC.out _ hS.1) ?_;rintro e w ⟨rfl,rfl⟩;refine Ae ?_;go_step|refine X8 ?_|refine AG ?_;go_step|fail)
   all_goals go_ret
   all_goals exact ⟨rfl,hS.1⟩
structure GP where
 w:Int
 r:Sr
def FQ(p:GP):DN:=⟨p.w,p.r.ad,p.r.xs.length,p.r.c⟩
def E8(p:GP):Pk:=(p.w,p.r.xs)
theorem Qz(G:List GP)(p:GP):((G++[p]).map FQ).flatMap LJ=(G.map FQ).flatMap LJ++[.int .i64 p.w, .slice p.r.ad p.r.xs.length p.r.c]:=by
 rw [List.map_append,List.flatMap_append];rfl
theorem Zx(G H:List GP):((G++H).map FQ).flatMap LJ=(G.map FQ).flatMap LJ++(H.map FQ).flatMap LJ:=by
 rw [List.map_append,List.flatMap_append]
def I6(c:List Int)(k:Nat):List Pk:=(0,[-1])::((List.range k).filter fun s=>decide (0<AK c s)).map fun s=>(AK c s,[(s:Int)])
theorem U4(c:List Int)(k:Nat):I6 c (k+1)=if 0<AK c k then I6 c k++[(AK c k,[(k:Int)])] else I6 c k:=by
 unfold I6
 rw [List.range_succ,List.filter_append]
 by_cases h:0<AK c k
 ·rw [if_pos h,List.filter_cons_of_pos (by simpa using h)];simp
 rw [if_neg h,List.filter_cons_of_neg (by simpa using h)];simp
theorem XZ(c:List Int)(k:Nat):(I6 c k).length≤k+1:=by
 unfold I6
 have:=List.length_filter_le (fun s=>decide (0<AK c s)) (List.range k)
 simp at this⊢
 exact this
theorem Ce.syll{S R:List Pk}{k:Nat}(h:Ce S k R):(C9 R).length≤k*(C9 S).length:=by
 induction h with
 | one R p _=>have:=(En p).length_eq;omega
 | @more k R Q h p _ ih=>
   have h1:=(En p).length_eq
   rw [CN,List.length_append] at h1
   obtain ⟨z,hu,_⟩:=Da R
   have h2:C9 (EM R)=C9 (EU (K2 R)):=KZ (K2 R)
   have h3:=congrArg (fun l=>(C9 l).length) hu
   simp only [CN,List.length_append] at h3
   rw [h2] at h1
   rw [Nat.add_mul,Nat.one_mul]
   omega
theorem Xl{R:List Pk}{x:Pk}(h:x∈R):x.2.length≤(C9 R).length:=by
 induction R with
 | nil=>cases h
 | cons a R ih=>
   rw [EF,List.length_append]
   rcases List.mem_cons.1 h with rfl|h
   ·omega
   have:=ih h;omega
theorem SZ(R:List Pk)(q:Nat)(h:2*q+1<R.length):(EM R).take (q+1)=(EM R).take q++[C5 (Ao R (2*q),Ao R (2*q+1))]:=by
 induction q generalizing R with
 | zero=>
   match R,h with
   | a::b::l,_=>simp [EM,K2,Ao]
 | succ q ih=>
   match R,h with
   | a::b::l,h=>
     have e:=ih l (by simp at h;omega)
     have e1:EM (a::b::l)=C5 (a,b)::EM l:=by simp [EM,K2]
     rw [e1,List.take_succ_cons,e,List.take_succ_cons,List.cons_append]
     congr 3
theorem Wr{α:Type}[Inhabited α](l:List α)(i:Nat)(h:i<l.length):l[i]=Ao l i:=by simp [Ao,h]
theorem T9(G:List GP)(k:Nat)(h:k<G.length):∃p,p∈G∧Ao (G.map FQ) k=FQ p∧Ao (G.map E8) k=E8 p:=by
 refine ⟨G[k],List.getElem_mem h,?_,?_⟩
 ·simp [Ao,h]
 simp [Ao,h]
theorem Ce.wbd{S R:List Pk}{k:Nat}(h0:∀x∈S,0≤x.1∧x.1≤9999*x.2.length)(h:Ce S k R):∀x∈R,0≤x.1∧x.1≤9999*x.2.length:=by
 induction h with
 | one R p _=>exact fun x hx=>h0 x (p.mem_iff.1 hx)
 | @more k R Q h p _ ih=>
   intro x hx
   rcases List.mem_append.1 (p.mem_iff.1 hx) with hx|hx
   ·obtain ⟨q,hq,rfl⟩:=List.mem_map.1 hx
    have h1:=ih q.1 (Hp hq).1
    have h2:=ih q.2 (Hp hq).2
    simp only [C5,List.length_append]
    push_cast
    omega
   exact h0 x hx
theorem aA(c:List Int)(n k:Nat)(h:∀i,i<n→0≤AK c i∧AK c i≤9999)(hk:k≤n):∀x∈I6 c k,0≤x.1∧x.1≤9999*x.2.length:=by
 intro x hx
 rcases List.mem_cons.1 hx with rfl|hx
 ·simp
 obtain ⟨s,hs,rfl⟩:=List.mem_map.1 hx
 have h1:=(List.mem_filter.1 hs).1
 have:=h s (by simp at h1;omega)
 simp;omega
theorem Mn(c:List Int)(k:Nat):(C9 (I6 c k)).length=(I6 c k).length:=by
 have:∀l:List Nat,(C9 (l.map fun s=>(AK c s,[(s:Int)]))).length=l.length:=fun l=>by
  induction l with
  | nil=>rfl
  | cons a l ih=>rw [List.map_cons,EF,List.length_append,ih];simp;omega
 unfold I6
 rw [EF,List.length_append,this]
 simp;omega
theorem Uo{c:List Int}{n j:Nat}{R:List Pk}(h:∀i,i<n→0≤AK c i∧AK c i≤9999)(hn:n≤256)(hj:j≤16)(hR:Ce (I6 c n) j R):∀x∈R,0≤x.1∧x.1≤50000000∧x.2.length≤5000:=by
 intro x hx
 have h1:=hR.wbd (aA c n n h (Nat.le_refl _)) x hx
 have h2:=hR.syll
 have h3:=Xl hx
 have h4:=XZ c n
 rw [Mn] at h2
 have h5:j*(I6 c n).length≤16*257:=Nat.mul_le_mul hj (by omega)
 omega
def Jt(l:List Int)(s:Int):Option Value:=if l.count s=0 then none else some (.int .i64 (l.count s:Nat))
theorem Rz(l:List Int)(s:Int):(fun j=>if j=s then some (Value.int .i64 ((l.count s+1:Nat):Int)) else Jt l j)=Jt (l++[s]):=by
 funext j
 unfold Jt
 rw [List.count_append]
 by_cases h:j=s
 ·subst h;simp
 have:List.count j [s]=0:=by rw [List.count_eq_zero];simp [h]
 rw [if_neg h,this,Nat.add_zero]
theorem Ti:Jt []=fun _=>none:=by funext j;simp [Jt]
def CA(f:Int→Nat)(n k:Nat):List Int:=((List.range n).filter fun (s:Nat)=>decide (f (s:Int)=k)).map fun (s:Nat)=>(s:Int)
theorem Gm(f:Int→Nat)(n k:Nat):CA f (n+1) k=if f (n:Int)=k then CA f n k++[(n:Int)] else CA f n k:=by
 unfold CA
 rw [List.range_succ,List.filter_append]
 by_cases h:f (n:Int)=k
 ·rw [if_pos h,List.filter_cons_of_pos (by simpa using h)];simp
 rw [if_neg h,List.filter_cons_of_neg (by simpa using h)];simp
def C4(f:Int→Nat)(n k:Nat):List Int:=(List.range k).flatMap fun i=>CA f n (i+1)
theorem C6(f:Int→Nat)(n k:Nat):C4 f n (k+1)=C4 f n k++CA f n (k+1):=by
 unfold C4;rw [List.range_succ,List.flatMap_append];simp
theorem GD(f:Int→Nat)(n k:Nat):(CA f n k).length≤n:=by
 have:=List.length_filter_le (fun s:Nat=>decide (f (s:Int)=k)) (List.range n)
 simp [CA] at this⊢;exact this
theorem QA(f:Int→Nat)(n k:Nat):(C4 f n k).length≤k*n:=by
 induction k with
 | zero=>simp [C4]
 | succ k ih=>rw [C6,List.length_append,Nat.add_mul,Nat.one_mul];have:=GD f n (k+1);omega
def GO(f:Int→Nat)(n k s i:Nat):Int:=if i<k then ((CA f n (i+1)).length:Nat) else if i=k then ((CA f s (i+1)).length:Nat) else 0
end Go.Proofs.YtohacgmhmbijmaaGreatDoor
