/- What the laws RescueHurt need, part 14. -/
import Derived.Test.YtohacgmhmbijmaaGreatDoorBaseHZ1
import Derived.Test.YtohacgmhmbijmaaGreatDoorBaseHZ2
import Derived.Test.YtohacgmhmbijmaaGreatDoorBaseHZ3
import Derived.Test.YtohacgmhmbijmaaGreatDoorBaseHZ5
import Derived.Test.YtohacgmhmbijmaaGreatDoorBaseHZ13
import Derived.Lib.AppendZeros
import Derived.Laws.Cover3
namespace Go.Proofs.YtohacgmhmbijmaaGreatDoor
attribute [local irreducible] Region.wanted
open Go.RowKit
set_option linter.unusedVariables false
set_option maxRecDepth 100000
set_option maxHeartbeats 8000000
theorem OM{lo hi:Nat}{P:List DY}(h:hi≤lo):D6 DY.w lo hi P:=fun i j h1 h2 h3=>by omega
theorem KQ{lo hi lo' hi':Nat}{P:List DY}(h:D6 DY.w lo hi P)(h1:lo=lo')(h2:hi'≤hi):D6 DY.w lo' hi' P:=by subst h1;exact h.sub (Nat.le_refl _) h2
def aF(s n:Nat)(P:List DY):Prop:=∀k,D6 DY.w (k*s) (min (k*s+s) n) P
theorem Q7(W w0:World)(rs rs':List Ar)(g n c:Nat)(P:List DY)(hS:St W w0 rs)(hp:AT (Cb g n c P) rs rs')(hn:n≤100000):
 Calls Tryz.prog 131 #[.slice (some ⟨g,0,none⟩) n c, .int .i64 n,dJ] w0 fun e w=>e= .returned (.tuple #[])∧∃Q,D6 DY.w 0 n Q∧Rg 0 n P Q∧St W w (Cb g n c Q::rs'):=by
 replace hS:=hS.pull hp
 have hPl:=EY hS AT.head Cx (by decide)
 clear hp
 go_enter Tryz.func131,Tryz.ntmps131
 repeat' (first
  | refine X0 ?_|refine AG ?_;go_step|fail)
 go_loopg [7,8] n (fun gk av bv w=>∃(k a:Nat) (Q:List DY),gk+k=n∧a=k*20∧a≤n∧av= .int .i64 a∧bv= .int .i64 (a+20:Nat)∧(∀j,j<k→D6 DY.w (j*20) (j*20+20) Q)∧Rg 0 n P Q∧St W w (Cb g n c Q::rs'))
 case atStart=>exact ⟨0,0,P,by omega,rfl,by omega,rfl,rfl,fun j h=>by omega,Rg.refl _ _ _,hS⟩
 case round=>
  clear hS
  obtain ⟨k,a,Q,hk,ha,han,rfl,rfl,hA,hR,hS⟩:=hrel
  have HA:=AD hA
  have HR:=AD hR
  have hQl:=hR.len
  clear hA hR
  by_cases hlt:a+20≤n
  ·have HC:=AD (fun (w:World)(hS:St W w (Cb g n c Q::rs'))=>JW W w (Cb g n c Q::rs') rs' g n c a (a+20) Q hS AT.head (by omega) hlt (by omega))
   repeat' (first
    | (refine AQ 22 ?_);(refine Ag (.int _ (((a+20+20:Nat):Int))) (V.as (V.addI rfl rfl (by omega)) (by omega)) (by kernel_rfl) ?_;go_step)|(refine As 138 ?_);refine At AA Tryz.call138 (HC.out _ hS) ?_;rintro e w ⟨rfl,Z,hZ1,hZ2,hS2⟩;replace hS:=hS2;clear hS2;refine Ac ?_;go_step|refine X0 ?_|refine Uq 13 ?_|refine AG ?_;go_step|fail)
   go_roundg (gk-1)
   case measure=>omega
   case rel=>
    refine ⟨k+1,a+20,Z,by omega,by omega,by omega,rfl,by go_num,fun j hj=>?_,HR.out.trans (hZ2.wide (by omega) (by omega) (by omega) (by omega)),hS⟩
    by_cases hjk:j=k
    ·subst hjk;rw [←ha];exact hZ1
    exact (HA.out j (by omega)).same fun x k1 k2=>hZ2.out x (by omega)
  have HC:=AD (fun (w:World)(hS:St W w (Cb g n c Q::rs'))=>JW W w (Cb g n c Q::rs') rs' g n c a n Q hS AT.head (by omega) (by omega) (by omega))
  repeat' (first
   | refine X1 ?_|refine Uq 13 ?_|refine AG ?_;go_step|fail)
  repeat' (first
   | (refine As 138 ?_);refine At AA Tryz.call138 (HC.out _ hS) ?_;rintro e w ⟨rfl,Z,hZ1,hZ2,hS2⟩;replace hS:=hS2;clear hS2;refine Ac ?_;go_step|refine AG ?_;go_step|fail)
  have hB:aF 20 n Z:=fun j=>by
   by_cases h1:j<k
   ·exact ((HA.out j h1).same fun x k1 k2=>hZ2.out x (by omega)).sub (Nat.le_refl _) (Nat.min_le_left _ _)
   by_cases h2:j=k
   ·subst h2;rw [←ha];exact hZ1.sub (Nat.le_refl _) (Nat.min_le_right _ _)
   exact OM (by omega)
  have hRZ:Rg 0 n P Z:=HR.out.trans (hZ2.wide (by omega) (by omega) (by omega) (by omega))
  have HB:=AD hB
  have HRZ:=AD hRZ
  clear hB hRZ HR HA HC hZ1 hZ2
  go_loopg [6] (n-20) (fun gk sv w=>∃(s:Nat) (Q:List DY),gk+s=max n s∧1≤s∧s≤2*n+20∧sv= .int .i64 s∧aF s n Q∧Rg 0 n P Q∧St W w (Cb g n c Q::rs'))
  case atStart=>exact ⟨20,Z,by omega,by omega,by omega,rfl,HB.out,HRZ.out,hS⟩
  case round=>
   clear hS HB HRZ
   obtain ⟨s,Q,hk,hs1,hs2,rfl,hB,hR,hS⟩:=hrel
   have HB:=AD hB
   have HR:=AD hR
   have hQl:=hR.len
   clear hB hR
   by_cases hlt2:s<n
   ·obtain ⟨gk1,hgk1⟩:∃x,x=gk:=⟨_,rfl⟩
    subst hgk1
    obtain ⟨t,ht⟩:∃t,t=2*s:=⟨_,rfl⟩
    repeat' (first
     | refine Xu 32 ?_|refine X0 ?_|refine X5 30 ?_|refine AG ?_;go_step|fail)
    go_loopg [7,8] n (fun gk av bv w=>∃(k a:Nat) (Q:List DY),gk+k=n∧a=k*t∧a≤n∧av= .int .i64 a∧bv= .int .i64 (a+t:Nat)∧(∀j,j<k→D6 DY.w (j*t) (j*t+t) Q)∧(∀j,2*k≤j→D6 DY.w (j*s) (min (j*s+s) n) Q)∧Rg 0 n P Q∧St W w (Cb g n c Q::rs'))
    case atStart=>exact ⟨0,0,Q,by omega,by omega,by omega,rfl,by rw [Nat.zero_add],fun j h=>by omega,fun j _=>HB.out j,HR.out,hS⟩
    case round=>
     clear hS HB HR
     obtain ⟨k,a,Q,hk3,ha,han,rfl,rfl,hA,hA2,hR,hS⟩:=hrel
     have hQl:=hR.len
     have m1:2*k*s=a:=by rw [ha,ht,Nat.mul_comm 2 k,Nat.mul_assoc]
     have m2:(2*k+1)*s=a+s:=by rw [Nat.add_mul,m1,Nat.one_mul]
     have m3:(k+1)*t=a+t:=by rw [Nat.add_mul,Nat.one_mul,←ha]
     have m4:∀j,2*k+2≤j→a+t≤j*s:=fun j hj=>by
      have:=Nat.mul_le_mul_right s hj
      rw [show (2*k+2)*s=a+t by rw [Nat.add_mul,m1,ht]] at this
      exact this
     have m5:∀j,j<k→j*t+t≤a:=fun j hj=>by
      have:=Nat.mul_le_mul_right t hj
      rw [Nat.succ_mul,←ha] at this
      exact this
     have m6:∀j,k<j→a+t≤j*t:=fun j hj=>by
      have:=Nat.mul_le_mul_right t hj
      rw [show (k.succ)*t=a+t from m3] at this
      exact this
     have hkt:k≤k*t:=Nat.le_mul_of_pos_right k (by omega)
     rw [←ha] at hkt
     have a1:=hA2 (2*k) (Nat.le_refl _)
     have a2:=hA2 (2*k+1) (by omega)
     rw [m1] at a1
     rw [m2] at a2
     have HA:=AD hA
     have HA2:=AD hA2
     have HR:=AD hR
     have M3:=AD m3
     have M4:=AD m4
     have M5:=AD m5
     have M6:=AD m6
     have Ha:=AD ha
     clear hA hA2 hR m1 m2 m3 m4 m5 m6 ha
     by_cases hlt:a+t≤n
     ·have HC:=AD (fun (w:World)(hS:St W w (Cb g n c Q::rs'))=>Ib n W w (Cb g n c Q::rs') rs' g n c a (a+s) (a+t) Q (by omega) hS AT.head (by omega) (by omega) hlt (by omega) (KQ a1 rfl (by omega)) (KQ a2 rfl (by omega)))
      clear a1 a2
      repeat' (first
       | refine ay 40 ?_|refine Xu 47 ?_|(refine AQ 48 ?_);(refine Ag (.int _ (((a+t+t:Nat):Int))) (V.as (V.addI rfl rfl (by omega)) (by omega)) (by kernel_rfl) ?_;go_step)|(refine As 139 ?_);refine At AA Tryz.call139 (HC.out _ hS) ?_;rintro e w ⟨rfl,Z,hZ1,hZ2,hS2⟩;replace hS:=hS2;clear hS2;refine Ac ?_;go_step|refine X0 ?_|refine Uq 35 ?_|refine AG ?_;go_step|fail)
      go_roundg (gk-1)
      case measure=>omega
      case rel=>
       refine ⟨k+1,a+t,Z,by omega,M3.out.symm,by omega,rfl,by go_num,fun j hj=>?_,fun j hj=>?_,HR.out.trans (hZ2.wide (by omega) (by omega) (by omega) (by omega)),hS⟩
       ·by_cases hjk:j=k
        ·subst hjk;rw [←Ha.out];exact hZ1
        have:=M5.out j (by omega)
        exact (HA.out j (by omega)).same fun x k1 k2=>hZ2.out x (by omega)
       have:=M4.out j (by omega)
       exact (HA2.out j (by omega)).same fun x k1 k2=>hZ2.out x (by omega)
     have HF:Hid (∀Z,D6 DY.w a n Z→Rg a n Q Z→aF t n Z∧Rg 0 n P Z):=fun Z hZ1 hZ2=>⟨fun j=>by
      by_cases h1:j<k
      ·have:=M5.out j h1
       exact ((HA.out j h1).same fun x k1 k2=>hZ2.out x (by omega)).sub (Nat.le_refl _) (Nat.min_le_left _ _)
      by_cases h2:j=k
      ·subst h2;rw [←Ha.out];exact hZ1.sub (Nat.le_refl _) (Nat.min_le_right _ _)
      have:=M6.out j (by omega)
      exact OM (by omega),HR.out.trans (hZ2.wide (by omega) (by omega) (by omega) (by omega))⟩
     by_cases hm:a+s<n
     ·have HC:=AD (fun (w:World)(hS:St W w (Cb g n c Q::rs'))=>Ib n W w (Cb g n c Q::rs') rs' g n c a (a+s) n Q (by omega) hS AT.head (by omega) hm (by omega) (by omega) (KQ a1 rfl (by omega)) (KQ a2 rfl (by omega)))
      clear a1 a2
      repeat' (first
       | refine X1 ?_|refine Uq 35 ?_|refine AG ?_;go_step|fail)
      repeat' (first
       | refine ay 51 ?_|refine Xu 62 ?_|(refine As 139 ?_);refine At AA Tryz.call139 (HC.out _ hS) ?_;rintro e w ⟨rfl,Z,hZ1,hZ2,hS2⟩;replace hS:=hS2;clear hS2;refine Ac ?_;go_step|refine X0 ?_|refine X5 54 ?_|refine AG ?_;go_step|fail)
      obtain ⟨b1,b2⟩:=HF.out Z hZ1 hZ2
      go_roundg (n-t)
      case measure=>omega
      case rel=>exact ⟨t,Z,by omega,by omega,by omega,by go_num,b1,b2,hS⟩
     obtain ⟨b1,b2⟩:=HF.out Q (KQ a1 rfl (by omega)) (Rg.refl _ _ _)
     have B1:=AD b1
     have B2:=AD b2
     clear a1 a2 b1 b2
     repeat' (first
      | refine X1 ?_|refine Uq 35 ?_|refine AG ?_;go_step|fail)
     repeat' (first
      | refine ay 51 ?_|refine X0 ?_|refine X5 54 ?_|refine AG ?_;go_step|fail)
     repeat' (first
      | refine Xu 62 ?_|refine X8 ?_|refine AG ?_;go_step|fail)
     go_roundg (n-t)
     case measure=>omega
     case rel=>exact ⟨t,Q,by omega,by omega,by omega,by go_num,B1.out,B2.out,hS⟩
   repeat' (first
    | refine X1 ?_|refine X5 30 ?_|refine AG ?_;go_step|fail)
   go_end0
   have:=HB.out 0
   rw [Nat.zero_mul,Nat.zero_add] at this
   exact ⟨rfl,Q,this.sub (Nat.le_refl _) (by omega),HR.out,hS⟩
theorem GG(W w0:World)(rs rs':List Ar)(g n c:Nat)(P:List DY)(hS:St W w0 rs)(hp:AT (Cb g n c P) rs rs')(hn:n≤100000):
 Calls Tryz.prog 103 #[.slice (some ⟨g,0,none⟩) n c,dJ] w0 fun e w=>e= .returned (.tuple #[])∧∃Q,Q.Perm P∧Q.Pairwise (fun a b=>a.w≤b.w)∧St W w (Cb g n c Q::rs'):=by
 replace hS:=hS.pull hp
 have hPl:=EY hS AT.head Cx (by decide)
 have HC:=AD (fun (w:World)(hS:St W w (Cb g n c P::rs'))=>Q7 W w (Cb g n c P::rs') rs' g n c P hS AT.head hn)
 clear hp
 go_enter Tryz.func103,Tryz.ntmps103
 repeat' (first
  | (refine As 131 ?_);refine At AA Tryz.call131 (HC.out _ hS) ?_;rintro e w ⟨rfl,Z,hZ1,hZ2,hS2⟩;replace hS:=hS2;clear hS2;refine Ac ?_;go_step|refine X1 ?_|(with_reducible refine Ak _ (.call ⟨.builtin .len,_,_⟩) ?_);(refine An AA (V.len Tryz.underlying160 rfl) ?_;go_step)|refine AG ?_;go_step|fail)
 go_end0
 rw [←hPl] at hZ1 hZ2
 have hl:=hZ2.len
 exact ⟨rfl,Z,hZ2.all,D6.pair (hl.symm▸ hZ1),hS⟩
theorem KZ(g c s:Nat):cutAt (some ⟨g,0,none⟩) c 0 s=some ⟨g,0,none⟩:=by
 unfold cutAt
 split
 ·rfl
 rw [Option.map_some,Addr.add_mid,Nat.zero_mul]
section
variable{P:Program}{W w:World}{rs rs':List Ar}{Q:Exit→Act→World→Prop}{K:Act→World→Prop}{o:Oper}{a:Act}
theorem RK(hS:St W w rs)(s x:Operand)(t tn:TypeId)(ho:o.op= .call {callee:= .builtin .append,args:=#[s,x],argTypes:=#[t,tn]})(e:TypeId)(b:Nat)(k:IntKind)(el:Gu P t e k 1 b)(kn:IntKind)(htn:P.underlying tn=some (.int kn))
 (hs:a.eval s= .slice none 0 0) (k2:IntKind) (n:Nat) (hx:a.eval x= .int k2 n) (h0:0<n) (h63:n≤maxLen) (hb:n*b≤281474976710656)
 (h:∀g c' w',n≤c'→c'≤maxLen→St W w' (own e 1 (some ⟨g,0,none⟩) 0 c' []::rs)→K (a.put o.dst (.slice (some ⟨g,0,none⟩) n c')) w'):o.wp P a w K Q:=by
 obtain ⟨ht,⟨i,z,hi,hz,hsz,hby,hzc⟩,_⟩:=el
 have hr:=Lib.run_append_nil_zeros (P:=P) w t tn o.type e i z k2 kn ht htn hi hz n h0 (by omega) (by unfold maxLen at h63;omega) (by rw [hby];exact hb)
 have hg1:=grownCap_ge w n 0 e
 have hg2:=grownCap_le_maxLen w n 0 e h63
 obtain ⟨G,hG⟩:∃G,grownCap w n 0 e=G:=⟨_,rfl⟩
 rw [hG] at hr hg1 hg2
 refine Lib.wp_append_run w s x t tn ho _ _ hs hx _ _ hr (h _ _ _ hg1 hg2 ?_)
 have hS2:=hS.drew
 obtain ⟨h1,f,h2,h3,h4⟩:=hS2
 refine ⟨h1.alloc _,w.heap.size::f,List.nodup_cons.2 ⟨fun hm=>by have:=h4.lt _ hm;exact absurd this (Nat.lt_irrefl _),h2⟩,fun b hb=>?_,[w.heap.size],f,rfl,⟨rfl,rfl, .inr ⟨w.heap.size,G,_,rfl,Nat.zero_le _,heap_alloc_new w.drew _,Nat.zero_le _,hg2,?_,by simp⟩⟩,h4.loc fun b hb=>?_⟩
 ·rcases List.mem_cons.1 hb with h|h
  ·rw [h];exact h1.sz
  exact h3 b h
 ·rw [Array.size_append,size_zeroCells,size_zeroCells,hzc,Array.size_replicate];omega
 exact heap_alloc_old w.drew _ (h4.lt b hb)
end
theorem V.cap{P:Program}{a:Act}{x:Operand}{t ty:TypeId}{ad:Option Addr}{n c:Nat}{e:TypeId}(ht:P.underlying t=some (.slice e))(hx:a.eval x= .slice ad n c):DW P (.call {callee:= .builtin .cap,args:=#[x],argTypes:=#[t]}) ty a (.int .i64 c):=fun d pos af g w=>by
 have e:P.elem t=e:=by simp [Program.elem,ht]
 have e2:=run_cap_slice (P:=P) w t ty ad n c (by rw [e];exact ht)
 simp only [execOp,resolve,invoke,builtin,Sem.run_bind,Sem.run_pure,Result.andThen_ok,List.map_toArray,List.map_cons,List.map_nil,hx,e2]
 rfl
theorem VX(w0:World)(n:Nat)(hn:n≤1000000):Calls Tryz.prog 133 #[.slice none 0 0, .int .i64 n] w0 fun e w=>∃(ad:Option Addr) (c:Nat),e= .returned (.slice ad 0 c)∧St w0 w [own 3 1 ad 0 c []]:=by
 have hS:=St.start w0
 go_enter Tryz.func133,Tryz.ntmps133
 by_cases h0:n=0
 ·subst h0
  repeat' (first
   | refine X0 ?_|refine X5 6 ?_|refine AG ?_;go_step|fail)
  repeat' (first
   | refine bD 13 ?_|refine bD 14 ?_|refine X0 ?_|(refine AQ 10 ?_);(refine An AA (V.cap Tryz.underlying30 rfl) ?_;go_step)|refine TA 12 ?_|refine KN 16 ?_|refine AG ?_;go_step|fail)
  repeat' (first
   | refine AG ?_;go_step|fail)
  go_ret
  exact ⟨none,0,rfl,hS.nil 3 1⟩
 repeat' (first
  | refine X0 ?_|refine X5 6 ?_|refine AG ?_;go_step|fail)
 repeat' (first
  | refine bD 13 ?_|(refine AQ 14 ?_);(refine Ag (.int _ (((n:Nat):Int))) (V.as (V.subI rfl rfl (by omega)) (by omega)) (by kernel_rfl) ?_;go_step)|refine X0 ?_|(refine AQ 10 ?_);(refine An AA (V.cap Tryz.underlying30 rfl) ?_;go_step)|refine TA 12 ?_|refine KN 16 ?_|refine AG ?_;go_step|fail)
 repeat' (first
  | (refine AQ 20 ?_);refine Ag (.slice none 0 0) (V.slice Tryz.underlying30 ET rfl .none (.some rfl (show Bk ((0:Nat):Int) 0 from rfl)) (Nat.le_refl _) (Nat.le_refl _)) AA ?_;go_step|(refine AQ 22 ?_);refine Ad ?_;refine RK (o:=⟨some 22,_,_,_,_,_⟩) hS _ _ 30 3 rfl 3 8 .i64 VI .i64 Tryz.underlying3 rfl .i64 n rfl (by omega) (by unfold maxLen;omega) (by omega) ?_;clear hS;intro g22 c22 w hc1 hc2 hS;refine AB ?_;go_step|refine X0 ?_|(refine AQ 19 ?_);(refine An AA (V.cap Tryz.underlying30 rfl) ?_;go_step)|refine TA 24 ?_|(refine AQ 25 ?_);(refine An AA (V.slice Tryz.underlying30 ET rfl (by (first|exact Lo.none|exact Lo.some rfl A9)) (by (first|exact Up.none|exact Up.some rfl A9)) (by omega) (by omega)) ?_;go_step)|refine AG ?_;go_step|fail)
 go_ret
 refine ⟨some ⟨g22,0,none⟩,c22,?_,hS⟩
 show Ending.returned (.slice (cutAt (some ⟨g22,0,none⟩) c22 0 1) (0-0) (c22-0))=_
 rw [KZ]
 rfl
theorem AT.mem2:∀(ss rs:List Ar)(r:Ar),∃ss',AT r (ss++r::rs) ss'
 | [],rs,r=>⟨rs, .head⟩
 | x::ss,rs,r=>by obtain ⟨s,hs⟩:=AT.mem2 ss rs r;exact ⟨x::s, .tail hs⟩
theorem SM(P:List DY):∀u∈P.flatMap L3,u.oneCell'=true:=fun u hu=>by
 obtain ⟨p,_,h⟩:=List.mem_flatMap.1 hu
 simp only [L3,List.mem_cons,List.mem_nil_iff,or_false] at h
 rcases h with rfl|rfl<;>rfl
theorem V.eqlNilS{P:Program}{a:Act}{x y:Operand}{t ty u e:TypeId}{ad:Option Addr}{n c:Nat}(ht:P.underlying t=some (.slice e))(hg:P.eqGuardType P.depth t=false)(hx:a.eval x= .slice ad n c)(hy:a.eval y= .slice none 0 0):DW P (.binOp .eql t x y u) ty a (.bool ad.isNone):=fun d pos af g w=>by
 have e1:(eqGuard .eql t x y (.slice ad n c) (.slice none 0 0)).run P w= .ok () w:=by
  unfold eqGuard
  simp
 have e2:(binOp .eql t (.slice ad n c) (.slice none 0 0)).run P w= .ok (.bool ad.isNone) w:=by
  have:binOp .eql t (.slice ad n c) (.slice none 0 0)=(do pure (.bool (←Op.equal t (.slice ad n c) (.slice none 0 0)))):=rfl
  rw [this]
  simp only [Sem.run_bind,run_equal_slice_nil w t e ad n c ht,Result.andThen_ok,Sem.run_pure]
 simp only [execOp,hx,hy,Sem.run_bind,e1,Result.andThen_ok,e2,Sem.run_pure]
section
variable{P:Program}{W w:World}{rs rs':List Ar}{Q:Exit→Act→World→Prop}{K:Act→World→Prop}{o:Oper}{a:Act}
theorem LR(hS:St W w rs)(t:TypeId)(ho:o.op= .buildSlice t 0 #[])(e:TypeId)(s b:Nat)(el:CA P t e s b)
 (h:∀g w',St W w' (own e s (some ⟨g,0,none⟩) 0 0 []::rs)→K (a.put o.dst (.slice (some ⟨g,0,none⟩) 0 0)) w'):o.wp P a w K Q:=by
 obtain ⟨ht,⟨i,z,hi,hz,hsz,hb,hzs⟩,hp⟩:=el
 have hr:(Instr.buildSlice t 0 #[]).run P w= .ok (.slice (some ⟨w.heap.size,0,none⟩) 0 0) (w.alloc (.cells #[] e)):=by
  simp [Instr.buildSlice,run_underlying ht,sizeOf,typeInfo,hi,Instr.fill,newRow]
  rw [Array.eq_empty_of_size_eq_zero (xs:=Array.map (fun x=>default) (Array.range 0)) (by simp)]
 have hst:=hS.allocOwn e s 0 [] (by simp) (Nat.zero_le _)
 unfold Oper.wp execOp
 simp only [ho,Sem.run_bind,Array.map_empty,hr,Result.andThen_ok,Sem.run_pure]
 exact h _ _ hst
end
theorem TM(W w0:World)(rs rs':List Ar)(g n c:Nat)(P:List DY)(hS:St W w0 rs)(hp:AT (Cb g n c P) rs rs')(hn:n≤100000)(hn0:0<n):
 Calls Tryz.prog 105 #[.slice (some ⟨g,0,none⟩) n c] w0 fun e w=>∃(g' c':Nat),e= .returned (.slice (some ⟨g',0,none⟩) n c')∧St W w (Cb g' n c' P::Cb g n c P::rs'):=by
 replace hS:=hS.pull hp
 go_enter Tryz.func105,Tryz.ntmps105
 have he:=Cx
 have hsl:∀w rs2,St W w (rs2++Cb g n c P::rs')→Sl w 2 (.slice (some ⟨g,0,none⟩) n c) n (P.flatMap L3):=fun w rs2 h=>by
  obtain ⟨ss',hp⟩:=AT.mem2 rs2 rs' (Cb g n c P)
  exact h.sl hp
 repeat' (first
  | (refine AQ 4 ?_);refine Ag (.bool false) (V.eqlNilS (ad:=some ⟨g,0,none⟩) (n:=n) (c:=c) Tryz.underlying160 AA rfl rfl) AA ?_;go_step|refine X0 ?_|refine AG ?_;go_step|fail)
 repeat' (first
  | (refine AQ 5 ?_);refine Ad ?_;refine LR (o:=⟨some 5,_,_,_,_,_⟩) hS 160 rfl 159 2 32 JO ?_;clear hS;intro g5 w hS;refine AB ?_;go_step|(refine AQ 7 ?_);refine Ad ?_;refine A4 (o:=⟨some 7,_,_,_,_,_⟩) hS _ _ 160 rfl 159 2 32 JO _ _ _ _ rfl .head _ rfl n _ (hsl _ [_] hS) (SM P) (by unfold maxLen;omega) (by omega) ?_;clear hS;intro ad7 c7 w hS;refine AB ?_;go_step|refine X0 ?_|refine AG ?_;go_step|fail)
 go_ret
 rw [Nat.zero_add,List.nil_append] at hS
 obtain ⟨g',rfl⟩:=Ba hS .head hn0
 refine ⟨g',c7,?_,hS⟩
 show Ending.returned (.slice (some ⟨g',0,none⟩) (0+n) c7)=_
 rw [Nat.zero_add]
structure Sr where
 ad:Option Addr
 c:Nat
 xs:List Int
def Sr.val(p:Sr):Value:= .slice p.ad p.xs.length p.c
def Sr.res(p:Sr):Ar:=own 3 1 p.ad p.xs.length p.c (p.xs.map (Value.int .i64))
def Kc(R:List Sr)(k:Nat):List Int:=(R.take k).flatMap (·.xs)
theorem MO(R:List Sr)(k:Nat)(r:Sr)(h:R[k]? =some r):Kc R (k+1)=Kc R k++r.xs:=by
 obtain ⟨hk,e⟩:=List.getElem?_eq_some_iff.1 h
 unfold Kc
 rw [List.take_succ_eq_append_getElem hk,List.flatMap_append,e]
 simp
theorem Yc(R:List Sr)(k:Nat):(Kc R k).length≤(R.flatMap (·.xs)).length:=by
 have:R.flatMap (·.xs)=(R.take k).flatMap (·.xs)++(R.drop k).flatMap (·.xs):=by rw [←List.flatMap_append,List.take_append_drop]
 rw [this,List.length_append]
 unfold Kc
 omega
theorem QJ(w0:World)(g m mc:Nat)(R:List Sr)(hv:Sl w0 1 (.slice (some ⟨g,0,none⟩) m mc) m (R.map Sr.val))(hr:∀r∈R,Sl w0 1 r.val r.xs.length (r.xs.map (Value.int .i64)))(hm:m≤1000)(hb:(R.flatMap (·.xs)).length≤1000000):
 Calls Tryz.prog 106 #[.slice (some ⟨g,0,none⟩) m mc] w0 fun e w=>∃(ad:Option Addr) (c:Nat),e= .returned (.slice ad (R.flatMap (·.xs)).length c)∧St w0 w [own 3 1 ad (R.flatMap (·.xs)).length c ((R.flatMap (·.xs)).map (Value.int .i64))]:=by
 have hS:=St.start w0
 have hRl:R.length=m:=by have:=hv.1;simpa using this
 have HC:Hid (∀k r,k<m→R[k]? =some r→w0.cell? ⟨g,k,none⟩=some (.slice r.ad r.xs.length r.c)):=fun k r hk h=>by
  obtain ⟨_,a1,c1,e1,_,_,hor⟩:=hv
  cases e1
  rcases hor with h0|⟨b0,o0,e2,hc⟩
  ·omega
  cases e2
  have:=hc k (by omega)
  rw [Nat.zero_add,List.getElem?_map,h] at this
  exact this
 have HR:=AD hr
 have HF:Hid (Kc R m=R.flatMap (·.xs)):=by unfold Hid;unfold Kc;rw [←hRl,List.take_length]
 have HL:Hid (∀k,(Kc R k).length≤1000000):=fun k=>Nat.le_trans (Yc R k) hb
 rw [←HF.out]
 clear hv hr hb
 go_enter Tryz.func106,Tryz.ntmps106
 repeat' (first
  | refine X0 ?_|refine Uo 10 ?_|refine AG ?_;go_step|fail)
 go_loopg [3,11] m (fun gk sv iv w=>∃(k L:Nat),gk+k=m∧L=(Kc R k).length∧iv= .int .i64 k∧sv= .int .i64 L∧St w0 w [])
 case atStart=>exact ⟨0,0,by omega,rfl,rfl,rfl,hS⟩
 case round=>
  clear hS
  obtain ⟨k,L,hk,hL,rfl,rfl,hS⟩:=hrel
  have hL0:=HL.out k
  rw [←hL] at hL0
  by_cases hlt:k<m
  ·obtain ⟨r,hr⟩:∃r,R[k]? =some r:=⟨_,List.getElem?_eq_getElem (by omega)⟩
   have hc:=HC.out k r hlt hr
   have hf:=congrArg List.length (MO R k r hr)
   rw [List.length_append,←hL] at hf
   have hL1:=HL.out (k+1)
   obtain ⟨N,hN⟩:∃N,r.xs.length=N:=⟨_,rfl⟩
   rw [hN] at hf hc
   have HFk:=AD hf
   rw [hf] at hL1
   clear hf hN hr
   repeat' (first
    | refine X0 ?_|refine X5 12 ?_|refine bW 13 ?_|refine Zp ?_|refine AG ?_;go_step|fail)
   repeat' (first
    | (refine AQ 18 ?_);(refine Ag (.int _ (((L+N:Nat):Int))) (V.as (V.addI rfl rfl (by omega)) (by omega)) (by kernel_rfl) ?_;go_step)|refine X0 ?_|refine TA 17 ?_|refine X5 20 ?_|refine AG ?_;go_step|fail)
   repeat' (first
    | refine Un 22 ?_|refine X1 ?_|refine AG ?_;go_step|fail)
   go_roundg (gk-1)
   case measure=>omega
   case rel=>exact ⟨k+1,L+N,by omega,HFk.out.symm,by go_num,rfl,hS⟩
  obtain rfl:k=m:=by omega
  repeat' (first
   | refine X1 ?_|refine X5 12 ?_|refine AG ?_;go_step|fail)
  repeat' (first
   | (refine As 133 ?_);refine At AA Tryz.call133 (VX _ L (by omega)) ?_;rintro e w ⟨ad,cc,rfl,hS2⟩;replace hS:=hS.call1 hS2;clear hS2;refine Ac ?_;go_step|refine X0 ?_|refine Uo 26 ?_|refine AG ?_;go_step|fail)
  go_loopg [6,27] k (fun gk sv iv w=>∃(j M:Nat) (aa:Option Addr) (ca:Nat),gk+j=k∧M=(Kc R j).length∧iv= .int .i64 j∧sv= .slice aa M ca∧St w0 w [own 3 1 aa M ca ((Kc R j).map (Value.int .i64))])
  case atStart=>exact ⟨0,0,ad,cc,by omega,rfl,rfl,rfl,hS⟩
  case round=>
   clear hS
   obtain ⟨j,M,aa,ca,hj,hM,rfl,rfl,hS⟩:=hrel
   have hM0:=HL.out j
   rw [←hM] at hM0
   by_cases hlt2:j<k
   ·obtain ⟨r,hr⟩:∃r,R[j]? =some r:=⟨_,List.getElem?_eq_getElem (by omega)⟩
    have hc:=HC.out j r hlt2 hr
    have hsl:Sl w0 1 (.slice r.ad r.xs.length r.c) r.xs.length (r.xs.map (Value.int .i64)):=HR.out r (List.mem_of_getElem? hr)
    have hfe:=MO R j r hr
    have hf:=congrArg List.length hfe
    rw [List.length_append,←hM] at hf
    have hM1:=HL.out (j+1)
    obtain ⟨N,hN⟩:∃N,r.xs.length=N:=⟨_,rfl⟩
    rw [hN] at hf hc hsl
    have HFk:=AD hf
    have HFE:=AD hfe
    rw [hf] at hM1
    clear hf hN hr hfe
    repeat' (first
     | (refine AQ 34 ?_);(refine Ag (.int _ (((j+1:Nat):Int))) (V.as (V.addI rfl rfl (by omega)) (by omega)) (by kernel_rfl) ?_;go_step)|refine X0 ?_|refine X5 28 ?_|refine bW 29 ?_|refine Zp ?_|refine Xj 33 ?_;clear hS;intro ad33 c33 w hS|refine AG ?_;go_step|fail)
    go_roundg (gk-1)
    case measure=>omega
    case rel=>exact ⟨j+1,M+N,_,_,by omega,HFk.out.symm,by go_num,rfl,by rw [HFE.out];exact hS.sub AV⟩
   obtain rfl:j=k:=by omega
   repeat' (first
    | refine X0 ?_|refine X5 28 ?_|refine AG ?_;go_step|fail)
   repeat' (first
    | refine AG ?_;go_step|fail)
   go_ret
   rw [←hM]
   exact ⟨aa,ca,rfl,hS⟩
end Go.Proofs.YtohacgmhmbijmaaGreatDoor
namespace Go.Proofs.YtohacgmhmbijmaaGreatDoor
attribute [local irreducible] Region.wanted
set_option linter.unusedVariables false
set_option maxRecDepth 100000
set_option maxHeartbeats 8000000
abbrev Pk:=Int×List Int
def D0(l:List Pk):Int:=(l.map (·.1)).sum
def DH(l:List Pk):List Int:=l.flatMap (·.2)
theorem W0:D0 []=0:=rfl
theorem Bw(x:Pk)(l:List Pk):D0 (x::l)=x.1+D0 l:=by simp [D0]
theorem Pv(a b:List Pk):D0 (a++b)=D0 a+D0 b:=by simp [D0]
theorem UR{a b:List Pk}(h:a.Perm b):D0 a=D0 b:=by
 induction h with
 | nil=>rfl
 | cons x _ ih=>simp [Bw,ih]
 | swap x y l=>simp only [Bw];omega
 | trans _ _ h1 h2=>rw [h1,h2]
theorem Ec(x:Pk)(l:List Pk):DH (x::l)=x.2++DH l:=by simp [DH]
theorem CQ(a b:List Pk):DH (a++b)=DH a++DH b:=by simp [DH]
theorem FF{a b:List Pk}(h:a.Perm b):(DH a).Perm (DH b):=h.flatMap_right _
def XW(l:List Pk):Prop:=l.Pairwise (fun a b=>a.1≤b.1)
def DC(p:Pk×Pk):Pk:=(p.1.1+p.2.1,p.1.2++p.2.2)
def Lh:List Pk→List (Pk×Pk)
 | a::b::l=>(a,b)::Lh l
 | _=>[]
def Ex(l:List (Pk×Pk)):List Pk:=l.flatMap fun p=>[p.1,p.2]
def Em(l:List Pk):List Pk:=(Lh l).map DC
theorem Dp:∀(l:List Pk),∃z,Ex (Lh l)++z=l∧z.length≤1
 | []=>⟨[],rfl,by simp⟩
 | [a]=>⟨[a],rfl,by simp⟩
 | a::b::l=>by
   obtain ⟨z,h,hz⟩:=Dp l
   exact ⟨z,by simp [Lh,Ex] at h⊢;exact h,hz⟩
theorem Sk(l:List (Pk×Pk)):(Ex l).length=2*l.length:=by
 induction l with
 | nil=>rfl
 | cons x l ih=>simp [Ex] at ih⊢;omega
theorem ZB(l:List Pk):(Lh l).length=l.length/2:=by
 obtain ⟨z,h,hz⟩:=Dp l
 have:=congrArg List.length h
 rw [List.length_append,Sk] at this
 omega
theorem Gc(l:List Pk):(Em l).length=l.length/2:=by simp [Em,ZB]
theorem UQ(l:List (Pk×Pk)):D0 (l.map DC)=D0 (Ex l):=by
 induction l with
 | nil=>rfl
 | cons x l ih=>simp only [List.map_cons,Bw,ih,DC,Ex,List.flatMap_cons,List.cons_append,List.nil_append];simp only [Ex] at*;omega
theorem LH(l:List (Pk×Pk)):DH (l.map DC)=DH (Ex l):=by
 induction l with
 | nil=>rfl
 | cons x l ih=>simp only [List.map_cons,Ec,ih,DC,Ex,List.flatMap_cons,List.cons_append,List.nil_append,List.append_assoc]
theorem I4{α β:Type}(f:α→β){L L0:List β}(h:L.Perm L0):∀M:List α,M.map f=L0→∃M':List α,M'.Perm M∧M'.map f=L:=by
 induction h with
 | nil=>intro M e;exact ⟨[],(by cases M with|nil=>exact List.Perm.refl _|cons=>cases e),rfl⟩
 | cons x _ ih=>
   intro M e
   cases M with
   | nil=>cases e
   | cons m M=>
     simp only [List.map_cons,List.cons.injEq] at e
     obtain ⟨M',h1,h2⟩:=ih M e.2
     exact ⟨m::M',h1.cons m,by simp [e.1,h2]⟩
 | swap x y l=>
   intro M e
   match M,e with
   | m1::m2::M,e=>
     simp only [List.map_cons,List.cons.injEq] at e
     exact ⟨m2::m1::M,List.Perm.swap _ _ _,by simp [e.1,e.2.1,e.2.2]⟩
 | trans _ _ h1 h2=>
   intro M e
   obtain ⟨M1,p1,e1⟩:=h2 M e
   obtain ⟨M2,p2,e2⟩:=h1 M1 e1
   exact ⟨M2,p2.trans p1,e2⟩
def BP(X R:List Pk):Prop:=∃Z,(X++Z).Perm R
theorem BP.take(R:List Pk)(m:Nat):BP (R.take m) R:=⟨R.drop m,by rw [List.take_append_drop]⟩
theorem BP.right{X R Q:List Pk}(h:BP X R)(p:R.Perm Q):BP X Q:=by
 obtain ⟨Z,hz⟩:=h;exact ⟨Z,hz.trans p⟩
theorem BP.app{X Y R Q:List Pk}(h:BP X R)(k:BP Y Q):BP (X++Y) (R++Q):=by
 obtain ⟨Z,hz⟩:=h;obtain ⟨U,hu⟩:=k
 refine ⟨Z++U,List.Perm.trans ?_ (hz.append hu)⟩
 rw [List.append_assoc,List.append_assoc]
 refine List.Perm.append_left X ?_
 rw [←List.append_assoc,←List.append_assoc]
 exact List.Perm.append_right U List.perm_append_comm
theorem BP.mem{X R:List Pk}(h:BP X R){x:Pk}(hx:x∈X):x∈R:=by
 obtain ⟨Z,hz⟩:=h;exact hz.mem_iff.1 (List.mem_append_left _ hx)
theorem BP.len{X R:List Pk}(h:BP X R):X.length≤R.length:=by
 obtain ⟨Z,hz⟩:=h;have:=hz.length_eq;rw [List.length_append] at this;omega
theorem BP.unpair{B R:List Pk}(h:BP B (Em R)):∃Y,BP Y R∧Y.length=2*B.length∧DH Y=DH B∧D0 Y=D0 B∧∃B',B'.map DC=B∧Y=Ex B':=by
 obtain ⟨Z,hz⟩:=h
 obtain ⟨M,hp,hm⟩:=I4 DC hz (Lh R) rfl
 obtain ⟨B',Z',e,hb,hz'⟩:=List.map_eq_append_iff.1 hm
 obtain ⟨z,hu,_⟩:=Dp R
 refine ⟨Ex B',⟨Ex Z'++z,?_⟩,by rw [Sk,←hb,List.length_map],by rw [←hb,LH],by rw [←hb,UQ],B',hb,rfl⟩
 have h1:(Ex M).Perm (Ex (Lh R)):=hp.flatMap_right _
 have h2:Ex M=Ex B'++Ex Z':=by rw [e];simp [Ex]
 rw [←List.append_assoc,←h2]
 conv=>rhs;rw [←hu]
 exact h1.append_right z
theorem LI:∀(R:List Pk),XW R→(∀x∈R,0≤x.1)→∀(X:List Pk)(m:Nat),BP X R→m≤X.length→D0 (R.take m)≤D0 X:=by
 have nn:∀X:List Pk,(∀x∈X,0≤x.1)→0≤D0 X:=fun X h=>by
  induction X with
  | nil=>simp [D0]
  | cons x X ih=>rw [Bw];have:=h x (by simp);have:=ih fun y hy=>h y (by simp [hy]);omega
 intro R
 induction R with
 | nil=>
   intro _ _ X m hX _
   have:X=[]:=by have:=hX.len;exact List.eq_nil_of_length_eq_zero (by simpa using this)
   subst this;simp [D0]
 | cons r R ih=>
   intro hs h0 X m hX hm
   cases m with
   | zero=>simp only [List.take_zero,W0];exact nn X fun x hx=>h0 x (hX.mem hx)
   | succ m=>
     obtain ⟨hr,hs'⟩:=List.pairwise_cons.1 hs
     rw [List.take_succ_cons,Bw]
     obtain ⟨Z,hz⟩:=hX
     have hrm:r∈X++Z:=hz.mem_iff.2 (by simp)
     rcases List.mem_append.1 hrm with hx|hx
     ·have p:=List.perm_cons_erase hx
      have hz2:(X.erase r++Z).Perm R:=by
       have:(r::(X.erase r++Z)).Perm (r::R):=(p.symm.append_right Z).trans hz
       exact this.cons_inv
      have hl:=p.length_eq
      rw [List.length_cons] at hl
      have:=ih hs' (fun x hx=>h0 x (by simp [hx])) (X.erase r) m ⟨Z,hz2⟩ (by omega)
      rw [UR p,Bw];omega
     cases X with
     | nil=>simp at hm
     | cons x X=>
       have p:=List.perm_cons_erase hx
       have hz2:(X++(x::Z.erase r)).Perm R:=by
        have h1:(r::(X++(x::Z.erase r))).Perm (r::R):=by
         refine List.Perm.trans ?_ hz
         have a1:(X++x::Z.erase r).Perm (x::(X++Z.erase r)):=List.perm_middle
         have a2:(r::(X++x::Z.erase r)).Perm (r::x::(X++Z.erase r)):=a1.cons r
         refine a2.trans ((List.Perm.swap x r _).trans ?_)
         refine List.Perm.cons x ?_
         have a3:(r::(X++Z.erase r)).Perm (X++r::Z.erase r):=List.perm_middle.symm
         exact a3.trans (List.Perm.append_left X p.symm)
        exact h1.cons_inv
       have hxr:r.1≤x.1:=by
        have:x∈r::R:=hz.mem_iff.1 (by simp)
        rcases List.mem_cons.1 this with e|e
        ·rw [e];exact Int.le_refl _
        exact hr x e
       have:=ih hs' (fun x hx=>h0 x (by simp [hx])) X m ⟨_,hz2⟩ (by simp at hm;omega)
       rw [Bw];omega
inductive Ci(S:List Pk):Nat→List Pk→Prop
 | one (R:List Pk) (p:R.Perm S) (s:XW R):Ci S 1 R
 | more {k:Nat} {R Q:List Pk} (h:Ci S k R) (p:Q.Perm (Em R++S)) (s:XW Q):Ci S (k+1) Q
theorem Ci.srt{S R:List Pk}{k:Nat}(h:Ci S k R):XW R:=by cases h<;>assumption
theorem Ci.nonneg{S R:List Pk}{k:Nat}(h0:∀x∈S,0≤x.1)(h:Ci S k R):∀x∈R,0≤x.1:=by
 induction h with
 | one R p _=>exact fun x hx=>h0 x (p.mem_iff.1 hx)
 | @more k R Q h p _ ih=>
   intro x hx
   rcases List.mem_append.1 (p.mem_iff.1 hx) with hx|hx
   ·obtain ⟨q,hq,rfl⟩:=List.mem_map.1 hx
    obtain ⟨z,hu,_⟩:=Dp R
    have hm:∀y∈Ex (Lh R),y∈R:=fun y hy=>by rw [←hu];exact List.mem_append_left _ hy
    have h1:=ih q.1 (hm _ (by simp only [Ex,List.mem_flatMap];exact ⟨q,hq,by simp⟩))
    have h2:=ih q.2 (hm _ (by simp only [Ex,List.mem_flatMap];exact ⟨q,hq,by simp⟩))
    simp only [DC];omega
   exact h0 x hx
theorem Ci.len{S R:List Pk}{k:Nat}(h:Ci S k R):R.length≤2*S.length:=by
 induction h with
 | one R p _=>have:=p.length_eq;omega
 | more h p _ ih=>have:=p.length_eq;rw [List.length_append,Gc] at this;omega
theorem Ci.long{S R:List Pk}{k:Nat}(h:Ci S k R)(_h1:1≤S.length):2*S.length≤R.length+1+S.length/2^(k-1):=by
 induction h with
 | one R p _=>have:=p.length_eq;simp;omega
 | @more k R Q h p _ ih=>
   have:=p.length_eq;rw [List.length_append,Gc] at this
   have hk:1≤k:=by cases h<;>omega
   have e:S.length/2^(k+1-1)=S.length/2^(k-1)/2:=by
    rw [Nat.div_div_eq_div_mul,←Nat.pow_succ,show (k-1).succ=k+1-1 by omega]
   rw [e];omega
def A2{α:Type}(f:α→Nat)(l:List α):Nat:=(l.map f).sum
theorem A8{α:Type}(f:α→Nat)(x:α)(l:List α):A2 f (x::l)=f x+A2 f l:=by simp [A2]
theorem IL{α:Type}(f g:α→Nat)(l:List α):A2 (fun x=>f x+g x) l=A2 f l+A2 g l:=by
 induction l with
 | nil=>rfl
 | cons x l ih=>simp only [A8,ih];omega
theorem Yp{α:Type}(f g:α→Nat)(l:List α)(h:∀x∈l,f x≤g x):A2 f l≤A2 g l:=by
 induction l with
 | nil=>exact Nat.le_refl _
 | cons x l ih=>have:=h x (by simp);have:=ih fun y hy=>h y (by simp [hy]);simp only [A8];omega
theorem Ce{α:Type}(f g:α→Nat)(l:List α)(h:∀x∈l,f x=g x):A2 f l=A2 g l:=by
 induction l with
 | nil=>rfl
 | cons x l ih=>have:=h x (by simp);have:=ih fun y hy=>h y (by simp [hy]);simp only [A8];omega
theorem IN{α:Type}(f:α→Nat)(c:Nat)(l:List α):A2 (fun x=>f x*c) l=A2 f l*c:=by
 induction l with
 | nil=>simp [A2]
 | cons x l ih=>simp only [A8,ih,Nat.add_mul]
theorem Vs{α:Type}(p:α→Bool)(l:List α):A2 (fun x=>if p x then 1 else 0) l=(l.filter p).length:=by
 induction l with
 | nil=>rfl
 | cons x l ih=>rw [A8,ih,List.filter_cons];by_cases h:p x=true<;>simp [h];omega
theorem MR{α:Type}(f:α→Nat)(l:List α)(h:∀x∈l,f x=0):A2 f l=0:=by
 induction l with
 | nil=>rfl
 | cons x l ih=>have:=h x (by simp);have:=ih fun y hy=>h y (by simp [hy]);simp only [A8];omega
def EW(X:List Pk)(s:Int):Nat:=(DH X).count s
structure Is(S:List Pk)(ss:List Int):Prop where
 syms:S.map (·.2)=ss.map fun s=>[s]
 nd:ss.Nodup
theorem Is.len{S:List Pk}{ss:List Int}(h:Is S ss):S.length=ss.length:=by
 have:=congrArg List.length h.syms;simpa using this
theorem Is.one{S:List Pk}{ss:List Int}(h:Is S ss):∀x∈S,∃s∈ss,x.2=[s]:=fun x hx=>by
 have:x.2∈S.map (·.2):=List.mem_map.2 ⟨x,hx,rfl⟩
 rw [h.syms] at this
 obtain ⟨s,hs,e⟩:=List.mem_map.1 this
 exact ⟨s,hs,e.symm⟩
theorem Is.syls{S:List Pk}{ss:List Int}(h:Is S ss):DH S=ss:=by
 have:DH S=(S.map (·.2)).flatten:=by simp [DH,List.flatMap]
 rw [this,h.syms]
 clear h this
 induction ss with
 | nil=>rfl
 | cons a l ih=>rw [List.map_cons,List.flatten_cons,ih];rfl
theorem Ci.pos{S R:List Pk}{k:Nat}{ss:List Int}(hS:Is S ss)(h:Ci S k R):∀x∈R,1≤x.2.length:=by
 induction h with
 | one R p _=>intro x hx;obtain ⟨s,_,e⟩:=hS.one x (p.mem_iff.1 hx);rw [e];simp
 | @more k R Q h p _ ih=>
   intro x hx
   rcases List.mem_append.1 (p.mem_iff.1 hx) with hx|hx
   ·obtain ⟨q,hq,rfl⟩:=List.mem_map.1 hx
    obtain ⟨z,hu,_⟩:=Dp R
    have h1:=ih q.1 (by rw [←hu];exact List.mem_append_left _ (by simp only [Ex,List.mem_flatMap];exact ⟨q,hq,by simp⟩))
    simp only [DC,List.length_append];omega
   obtain ⟨s,_,e⟩:=hS.one x hx;rw [e];simp
theorem BP.parts{S R Q X:List Pk}{k:Nat}{ss:List Int}(hS:Is S ss)(h:Ci S k R)(p:Q.Perm (Em R++S))(hX:BP X Q):
 ∃B A,BP B (Em R)∧BP A S∧X.Perm (B++A):=by
 obtain ⟨Z,hz⟩:=hX
 have hz:=hz.trans p
 have hpos:=h.pos hS
 have h1:∀x∈Em R,decide (2≤x.2.length)=true:=fun x hx=>by
  obtain ⟨q,hq,rfl⟩:=List.mem_map.1 hx
  obtain ⟨z,hu,_⟩:=Dp R
  have e1:=hpos q.1 (by rw [←hu];exact List.mem_append_left _ (by simp only [Ex,List.mem_flatMap];exact ⟨q,hq,by simp⟩))
  have e2:=hpos q.2 (by rw [←hu];exact List.mem_append_left _ (by simp only [Ex,List.mem_flatMap];exact ⟨q,hq,by simp⟩))
  simp only [DC,List.length_append,decide_eq_true_eq];omega
 have h2:∀x∈S,decide (2≤x.2.length)=false:=fun x hx=>by obtain ⟨s,_,e⟩:=hS.one x hx;rw [e];simp
 have f1:=hz.filter (fun x=>decide (2≤x.2.length))
 have f2:=hz.filter (fun x=>!decide (2≤x.2.length))
 rw [List.filter_append,List.filter_append,List.filter_eq_self.2 h1,(List.filter_eq_nil_iff (l:=S)).2 (fun x hx=>by rw [h2 x hx];simp),List.append_nil] at f1
 rw [List.filter_append,List.filter_append,(List.filter_eq_nil_iff (l:=Em R)).2 (fun x hx=>by rw [h1 x hx];simp),(List.filter_eq_self (l:=S)).2 (fun x hx=>by rw [h2 x hx];rfl),List.nil_append] at f2
 exact ⟨_,_,⟨_,f1⟩,⟨_,f2⟩,(List.filter_append_perm _ X).symm⟩
theorem SD(X Y:List Pk)(s:Int):EW (X++Y) s=EW X s+EW Y s:=by simp [EW,CQ]
theorem O9{X Y:List Pk}(h:X.Perm Y)(s:Int):EW X s=EW Y s:=(FF h).count_eq s
theorem BP.single{A S:List Pk}{ss:List Int}(hS:Is S ss)(h:BP A S):(DH A).Nodup∧(DH A).length=A.length∧∀s∈DH A,s∈ss:=by
 obtain ⟨Z,hz⟩:=h
 have hp:(DH A++DH Z).Perm ss:=by rw [←CQ,←hS.syls];exact FF hz
 refine ⟨(List.nodup_append.1 (hp.nodup_iff.2 hS.nd)).1,?_,fun s hs=>hp.mem_iff.1 (List.mem_append_left _ hs)⟩
 have:∀x∈A,x.2.length=1:=fun x hx=>by
  obtain ⟨s,_,e⟩:=hS.one x (hz.mem_iff.1 (List.mem_append_left _ hx));rw [e];rfl
 clear hp hz
 induction A with
 | nil=>rfl
 | cons x A ih=>rw [Ec,List.length_append,this x (by simp),ih fun y hy=>this y (by simp [hy]),List.length_cons];omega
theorem Nz(k:Nat)(h:1≤k):2^k=2*2^(k-1):=by
 cases k with
 | zero=>omega
 | succ k=>rw [Nat.pow_succ,Nat.add_sub_cancel];omega
theorem Ci.kraft{S R:List Pk}{k:Nat}{ss:List Int}(hS:Is S ss)(h:Ci S k R):∀X,BP X R→
 (∀s,EW X s≤k)∧X.length*2^(k-1)≤A2 (fun s=>2^k-2^(k-EW X s)) ss∧(∀s∈DH X,s∈ss):=by
 have sums:∀(L:List Int),L.Nodup→(∀s∈L,s∈ss)→A2 (fun s=>L.count s) ss=L.length:=by
  intro L
  induction L with
  | nil=>intro _ _;exact MR _ _ fun s _=>rfl
  | cons x L ih=>
    intro hn hm
    obtain ⟨h1,h2⟩:=List.nodup_cons.1 hn
    have:=ih h2 fun s hs=>hm s (by simp [hs])
    have e:A2 (fun s=>(x::L).count s) ss=A2 (fun s=>L.count s) ss+A2 (fun s=>if s=x then 1 else 0) ss:=by
     rw [←IL]
     refine Ce _ _ _ fun s _=>?_
     rw [List.count_cons];by_cases h:s=x
     ·subst h;simp
     have:(x==s)=false:=by simp;exact fun e=>h e.symm
     simp [h,this]
    have e2:A2 (fun s=>if s=x then 1 else 0) ss=1:=by
     have hx:=hm x (by simp)
     have e3:A2 (fun s=>if s=x then 1 else 0) ss=ss.count x:=by
      clear e this ih h1 h2 hn hm hx h hS
      induction ss with
      | nil=>rfl
      | cons a l ih=>rw [A8,ih,List.count_cons];by_cases h:a=x<;>simp [h];omega
     rw [e3]
     have a1:=List.nodup_iff_count.1 hS.nd x
     have a2:=List.count_pos_iff.2 hx
     omega
    rw [e,e2,this,List.length_cons]
 induction h with
 | one R p _=>
   intro X hX
   obtain ⟨h1,h2,h3⟩:=(hX.right p).single hS
   have hle:∀s,EW X s≤1:=fun s=>List.nodup_iff_count.1 h1 s
   refine ⟨hle,?_,h3⟩
   have:=sums _ h1 h3
   have e:A2 (fun s=>2^1-2^(1-EW X s)) ss=A2 (fun s=>(DH X).count s) ss:=Ce _ _ _ fun s _=>by
    have:=hle s
    have e:EW X s=(DH X).count s:=rfl
    rcases Nat.lt_or_ge (EW X s) 1 with h|h
    ·rw [←e,show EW X s=0 by omega]
    rw [←e,show EW X s=1 by omega]
   rw [e,this,h2];simp
 | @more k R Q h p _ ih=>
   intro X hX
   obtain ⟨B,A,hB,hA,hp⟩:=BP.parts hS h p hX
   obtain ⟨Y,hY,hYl,hYs,_,_⟩:=hB.unpair
   obtain ⟨i1,i2,i3⟩:=ih Y hY
   obtain ⟨a1,a2,a3⟩:=hA.single hS
   have hk:1≤k:=by cases h<;>omega
   have hlx:∀s,EW X s=EW Y s+(DH A).count s:=fun s=>by rw [O9 hp,SD];simp only [EW,hYs]
   have ha:∀s,(DH A).count s≤1:=fun s=>List.nodup_iff_count.1 a1 s
   refine ⟨fun s=>by rw [hlx];have:=i1 s;have:=ha s;omega,?_,fun s hs=>?_⟩
   ·have hs:=sums _ a1 a3
    rw [a2] at hs
    have key:A2 (fun s=>(DH A).count s*2^k+(2^k-2^(k-EW Y s))) ss≤A2 (fun s=>2^(k+1)-2^(k+1-EW X s)) ss:=by
     refine Yp _ _ _ fun s _=>?_
     rw [hlx]
     have h1:=i1 s
     have h2:=ha s
     have e1:2^(k+1)=2*2^k:=by rw [Nat.pow_succ];omega
     have e3:2^(k-EW Y s)≤2^k:=Nat.pow_le_pow_right (by omega) (by omega)
     rcases Nat.lt_or_ge ((DH A).count s) 1 with h|h
     ·rw [show (DH A).count s=0 by omega,Nat.zero_mul,Nat.zero_add,Nat.add_zero (EW Y s),e1]
      have e2:2^(k+1-EW Y s)=2*2^(k-EW Y s):=by rw [show k+1-EW Y s=(k-EW Y s)+1 by omega,Nat.pow_succ];omega
      rw [e2];omega
     rw [show (DH A).count s=1 by omega,Nat.one_mul,e1,show k+1-(EW Y s+1)=k-EW Y s by omega]
     omega
    rw [IL,IN,hs] at key
    have hl:=hp.length_eq
    rw [List.length_append] at hl
    have e4:=Nz k hk
    rw [hl,Nat.add_sub_cancel,Nat.add_mul]
    rw [hYl] at i2
    have e5:B.length*2^k=2*B.length*2^(k-1):=by rw [e4,←Nat.mul_assoc];congr 1;omega
    omega
   have:=(FF hp).mem_iff.1 hs
   rw [CQ,List.mem_append] at this
   rcases this with h|h
   ·exact i3 s (hYs▸ h)
   exact a3 s h
def isum{α:Type}(f:α→Int)(l:List α):Int:=(l.map f).sum
theorem CD{α:Type}(f:α→Int)(x:α)(l:List α):isum f (x::l)=f x+isum f l:=by simp [isum]
theorem Vc{α:Type}(f g:α→Int)(l:List α):isum (fun x=>f x+g x) l=isum f l+isum g l:=by
 induction l with
 | nil=>rfl
 | cons x l ih=>simp only [CD,ih];omega
theorem ES{α:Type}(f g:α→Int)(l:List α)(h:∀x∈l,f x=g x):isum f l=isum g l:=by
 induction l with
 | nil=>rfl
 | cons x l ih=>have:=h x (by simp);have:=ih fun y hy=>h y (by simp [hy]);simp only [CD];omega
theorem I1{α:Type}(f:α→Int)(l:List α)(h:∀x∈l,f x=0):isum f l=0:=by
 induction l with
 | nil=>rfl
 | cons x l ih=>have:=h x (by simp);have:=ih fun y hy=>h y (by simp [hy]);simp only [CD];omega
theorem Tp{α:Type}(f:α→Nat){l m:List α}(h:l.Perm m):A2 f l=A2 f m:=by
 induction h with
 | nil=>rfl
 | cons x _ ih=>simp [A8,ih]
 | swap x y l=>simp only [A8];omega
 | trans _ _ h1 h2=>rw [h1,h2]
theorem JX{α:Type}(f:α→Int)(l m:List α):isum f (l++m)=isum f l+isum f m:=by simp [isum]
theorem F4{α:Type}(f:α→Nat)(l m:List α):A2 f (l++m)=A2 f l+A2 f m:=by simp [A2]
theorem Ci.weigh{S R:List Pk}{k:Nat}(w:Int→Int)(hw:∀x∈S,x.1=isum w x.2)(h:Ci S k R):∀x∈R,x.1=isum w x.2:=by
 induction h with
 | one R p _=>exact fun x hx=>hw x (p.mem_iff.1 hx)
 | @more k R Q h p _ ih=>
   intro x hx
   rcases List.mem_append.1 (p.mem_iff.1 hx) with hx|hx
   ·obtain ⟨q,hq,rfl⟩:=List.mem_map.1 hx
    obtain ⟨z,hu,_⟩:=Dp R
    have h1:=ih q.1 (by rw [←hu];exact List.mem_append_left _ (by simp only [Ex,List.mem_flatMap];exact ⟨q,hq,by simp⟩))
    have h2:=ih q.2 (by rw [←hu];exact List.mem_append_left _ (by simp only [Ex,List.mem_flatMap];exact ⟨q,hq,by simp⟩))
    simp only [DC,JX];omega
   exact hw x hx
theorem Pw(w:Int→Int):∀(X:List Pk),(∀x∈X,x.1=isum w x.2)→D0 X=isum w (DH X)
 | [],_=>rfl
 | x::X,h=>by rw [Bw,Ec,JX,h x (by simp),Pw w X fun y hy=>h y (by simp [hy])]
theorem Ki(w:Int→Int)(ss:List Int)(hn:ss.Nodup):∀(L:List Int),(∀s∈L,s∈ss)→isum w L=isum (fun s=>w s*(L.count s:Nat)) ss
 | [],_=>(I1 _ _ fun s _=>by simp).symm
 | x::L,h=>by
   rw [CD,Ki w ss hn L fun s hs=>h s (by simp [hs])]
   have e:isum (fun s=>w s*((x::L).count s:Nat)) ss=isum (fun s=>w s*(L.count s:Nat)) ss+isum (fun s=>if s=x then w s else 0) ss:=by
    rw [←Vc]
    refine ES _ _ _ fun s _=>?_
    rw [List.count_cons];by_cases h:s=x
    ·subst h;simp [Int.mul_add]
    have:(x==s)=false:=by simp;exact fun e=>h e.symm
    simp [h,this]
   have hx:=h x (by simp)
   have e2:isum (fun s=>if s=x then w s else 0) ss=w x:=by
    clear e h
    induction ss with
    | nil=>cases hx
    | cons a l ih=>
      obtain ⟨h1,h2⟩:=List.nodup_cons.1 hn
      rw [CD]
      by_cases ha:a=x
      ·subst ha
       rw [if_pos rfl,I1 _ l fun s hs=>by rw [if_neg];intro e;exact h1 (e▸ hs)];omega
      rw [if_neg ha,ih h2 ((List.mem_cons.1 hx).resolve_left (fun e=>ha e.symm))];omega
   rw [e,e2];omega
def fN(K l:Nat):Nat→Nat
 | 0=>0
 | k+1=>fN K l k+(if K≤l+k then 2^k else 0)
def fC(K l:Nat):Nat→Nat
 | 0=>0
 | k+1=>fC K l k+(if K≤l+k then 1 else 0)
theorem eD(l:Nat)(h:l≤16):fN 16 l 16+2^(16-l)=2^16:=by
 have:∀l,l<17→fN 16 l 16+2^(16-l)=2^16:=by decide
 exact this l (by omega)
theorem eC(l:Nat)(h:l≤16):fC 16 l 16=l:=by
 have:∀l,l<17→fC 16 l 16=l:=by decide
 exact this l (by omega)
theorem Kw:∀(R:List Pk)(t:Nat),2*t≤R.length→D0 ((Em R).take t)=D0 (R.take (2*t))
 | _,0,_=>by simp
 | a::b::l,t+1,h=>by
   have ih:=Kw l t (by simp at h;omega)
   rw [show 2*(t+1)=2*t+1+1 by omega,List.take_succ_cons,List.take_succ_cons,Bw,Bw,←ih]
   simp only [Em,Lh,List.map_cons,List.take_succ_cons,Bw,DC];omega
 | [a],t+1,h=>by simp at h;omega
 | [],t+1,h=>by simp at h
theorem Ci.lower{S R:List Pk}{k:Nat}(K:Nat)(len:Pk→Nat)(h0:∀x∈S,0≤x.1)(h:Ci S k R):
 ∃X,BP X R∧X.length=A2 (fun x=>fN K (len x) k) S/2^(k-1)∧D0 X≤isum (fun x=>x.1*(fC K (len x) k:Nat)) S:=by
 have sel:∀k,A2 (fun x=>fN K (len x) (k+1)) S=A2 (fun x=>fN K (len x) k) S+(S.filter fun x=>decide (K≤len x+k)).length*2^k∧
  isum (fun x=>x.1*(fC K (len x) (k+1):Nat)) S=isum (fun x=>x.1*(fC K (len x) k:Nat)) S+D0 (S.filter fun x=>decide (K≤len x+k)):=fun k=>by
  clear h h0
  induction S with
  | nil=>exact ⟨by simp [A2],by simp [isum,D0]⟩
  | cons x S ih=>
    simp only [A8,CD,List.filter_cons]
    rw [ih.1,ih.2]
    by_cases hx:K≤len x+k
    ·simp only [fN,fC,hx,if_true,decide_true,List.length_cons,Bw,Nat.add_mul,Nat.one_mul]
     refine ⟨by omega,?_⟩
     push_cast;rw [Int.mul_add];omega
    simp only [fN,fC,hx,if_false,decide_false,Bool.false_eq_true]
    exact ⟨by omega,by simp;omega⟩
 have filt:∀k,BP (S.filter fun x=>decide (K≤len x+k)) S:=fun k=>⟨_,List.filter_append_perm _ S⟩
 induction h with
 | one R p _=>
   refine ⟨_,(filt 0).right p.symm,?_,?_⟩
   ·rw [(sel 0).1,MR (fun x=>fN K (len x) 0) S fun _ _=>rfl];simp
   rw [(sel 0).2,I1 (fun x=>x.1*(fC K (len x) 0:Nat)) S fun _ _=>by simp [fC]];omega
 | @more k R Q h p _ ih=>
   obtain ⟨X,hX,hl,hw⟩:=ih
   have hk:1≤k:=by cases h<;>omega
   have ht:=hX.len
   refine ⟨_,((BP.take (Em R) (X.length/2)).app (filt k)).right p.symm,?_,?_⟩
   ·rw [(sel k).1,List.length_append,List.length_take,Gc,Nat.min_eq_left (by omega),Nat.add_sub_cancel,Nat.add_mul_div_right _ _ (Nat.two_pow_pos k),hl,Nat.div_div_eq_div_mul,←Nat.pow_succ,show (k-1).succ=k by omega]
   rw [(sel k).2,Pv,Kw R _ (by omega)]
   have:=LI R h.srt (h.nonneg h0) X (2*(X.length/2)) hX (by omega)
   omega
theorem IT{R:List Pk}{q:Pk×Pk}(h:q∈Lh R):q.1∈R∧q.2∈R:=by
 obtain ⟨z,hu,_⟩:=Dp R
 exact ⟨by rw [←hu];exact List.mem_append_left _ (by simp only [Ex,List.mem_flatMap];exact ⟨q,h,by simp⟩),by rw [←hu];exact List.mem_append_left _ (by simp only [Ex,List.mem_flatMap];exact ⟨q,h,by simp⟩)⟩
theorem SP:∀(R:List Pk),XW R→(Lh R).Pairwise (fun q p=>q.2.1≤p.1.1)∧∀q∈Lh R,q.1.1≤q.2.1
 | [],_=>⟨List.Pairwise.nil,fun q h=>by cases h⟩
 | [a],_=>⟨List.Pairwise.nil,fun q h=>by cases h⟩
 | a::b::l,h=>by
   obtain ⟨h1,h2⟩:=List.pairwise_cons.1 h
   obtain ⟨h3,h4⟩:=List.pairwise_cons.1 h2
   obtain ⟨i1,i2⟩:=SP l h4
   refine ⟨List.pairwise_cons.2 ⟨fun q hq=>h3 _ (IT hq).1,i1⟩,fun q hq=>?_⟩
   rcases List.mem_cons.1 hq with rfl|hq
   ·exact h1 _ (by simp)
   exact i2 q hq
def dQ(C Z R:List Pk):Prop:=(C++Z).Perm R∧∀p∈C,∀q∈Z,p.1≤q.1
theorem dQ.take{R:List Pk}(h:XW R)(m:Nat):dQ (R.take m) (R.drop m) R:=
 ⟨by rw [List.take_append_drop],fun p hp q hq=>by
  have:(R.take m++R.drop m).Pairwise (fun a b=>a.1≤b.1):=by rw [List.take_append_drop];exact h
  exact (List.pairwise_append.1 this).2.2 p hp q hq⟩
theorem WE:∀(R:List Pk),XW R→∀z,Ex (Lh R)++z=R→∀y∈z,∀x∈Ex (Lh R),x.1≤y.1:=fun R h z e y hy x hx=>by
 have:(Ex (Lh R)++z).Pairwise (fun a b=>a.1≤b.1):=by rw [e];exact h
 exact (List.pairwise_append.1 this).2.2 x hx y hy
theorem Ci.order{S R:List Pk}{k:Nat}{ss:List Int}(hS:Is S ss)(w:Int→Int)(hw:∀x∈S,x.1=isum w x.2)(h:Ci S k R){a b:Int}(hb:b∈ss)(hab:w b<w a):
 ∀C Z,dQ C Z R→EW C a≤EW C b:=by
 have single:∀C Z,(C++Z).Perm S→(∀p∈C,∀q∈Z,p.1≤q.1)→(DH C).count a≤(DH C).count b:=by
  intro C Z hp hl
  have hsp:(DH C++DH Z).Perm ss:=by rw [←CQ,←hS.syls];exact FF hp
  have hn:=hsp.nodup_iff.2 hS.nd
  have h1:(DH C).count a≤1:=List.nodup_iff_count.1 (List.nodup_append.1 hn).1 a
  by_cases ha:a∈DH C
  ·have hbm:=hsp.mem_iff.2 hb
   rcases List.mem_append.1 hbm with hbC|hbZ
   ·have:=List.count_pos_iff.2 hbC;omega
   exfalso
   obtain ⟨x,hx,hax⟩:=List.mem_flatMap.1 ha
   obtain ⟨y,hy,hby⟩:=List.mem_flatMap.1 hbZ
   have hxS:=hp.mem_iff.1 (List.mem_append_left _ hx)
   have hyS:=hp.mem_iff.1 (List.mem_append_right _ hy)
   obtain ⟨s,_,es⟩:=hS.one x hxS
   obtain ⟨t,_,et⟩:=hS.one y hyS
   rw [es] at hax;rw [et] at hby
   simp at hax hby
   subst hax;subst hby
   have w1:=hw x hxS
   have w2:=hw y hyS
   rw [es] at w1;rw [et] at w2
   simp [isum] at w1 w2
   have:=hl x hx y hy
   omega
  rw [List.count_eq_zero.2 ha];omega
 induction h with
 | one R p _=>exact fun C Z hL=>single C Z (hL.1.trans p) hL.2
 | @more k R Q h p _ ih=>
   intro C Z hL
   obtain ⟨hp,hl⟩:=hL
   have hz:=hp.trans p
   have hpos:=h.pos hS
   have h1:∀x∈Em R,decide (2≤x.2.length)=true:=fun x hx=>by
    obtain ⟨q,hq,rfl⟩:=List.mem_map.1 hx
    have e1:=hpos q.1 (IT hq).1
    have e2:=hpos q.2 (IT hq).2
    simp only [DC,List.length_append,decide_eq_true_eq];omega
   have h2:∀x∈S,decide (2≤x.2.length)=false:=fun x hx=>by obtain ⟨s,_,e⟩:=hS.one x hx;rw [e];simp
   have f1:=hz.filter (fun x=>decide (2≤x.2.length))
   have f2:=hz.filter (fun x=>!decide (2≤x.2.length))
   rw [List.filter_append,List.filter_append,List.filter_eq_self.2 h1,(List.filter_eq_nil_iff (l:=S)).2 (fun x hx=>by rw [h2 x hx];simp),List.append_nil] at f1
   rw [List.filter_append,List.filter_append,(List.filter_eq_nil_iff (l:=Em R)).2 (fun x hx=>by rw [h1 x hx];simp),(List.filter_eq_self (l:=S)).2 (fun x hx=>by rw [h2 x hx];rfl),List.nil_append] at f2
   have hC:=(List.filter_append_perm (fun x:Pk=>decide (2≤x.2.length)) C).symm
   obtain ⟨M,hM,hm⟩:=I4 DC f1 (Lh R) rfl
   obtain ⟨B,B',e,hb1,hb2⟩:=List.map_eq_append_iff.1 hm
   obtain ⟨z,hu,_⟩:=Dp R
   obtain ⟨s1,s2⟩:=SP R h.srt
   have hpw:(B++B').Pairwise (fun q p=>q.2.1≤p.1.1∨p.2.1≤q.1.1):=by
    rw [←e]
    exact (List.Perm.pairwise_iff (R:=fun (q p:Pk×Pk)=>q.2.1≤p.1.1∨p.2.1≤q.1.1) (fun hh=>hh.symm) hM).2 (s1.imp Or.inl)
   have hcross:=(List.pairwise_append.1 hpw).2.2
   have hmem:∀q,q∈B++B'→q∈Lh R:=fun q hq=>hM.mem_iff.1 (e▸ hq)
   have hlow:dQ (Ex B) (Ex B'++z) R:=by
    refine ⟨?_,?_⟩
    ·rw [←List.append_assoc]
     have h3:(Ex M).Perm (Ex (Lh R)):=hM.flatMap_right _
     have h4:Ex M=Ex B++Ex B':=by rw [e];simp [Ex]
     rw [←h4]
     conv=>rhs;rw [←hu]
     exact h3.append_right z
    intro y hy y' hy'
    simp only [Ex,List.mem_flatMap] at hy
    obtain ⟨q,hq,hyq⟩:=hy
    have hqR:=hmem q (List.mem_append_left _ hq)
    rcases List.mem_append.1 hy' with hy'|hy'
    ·simp only [Ex,List.mem_flatMap] at hy'
     obtain ⟨q',hq',hyq'⟩:=hy'
     have hqR':=hmem q' (List.mem_append_right _ hq')
     have c1:=s2 q hqR
     have c2:=s2 q' hqR'
     have c3:=hcross q hq q' hq'
     have c4:(DC q).1≤(DC q').1:=by
      refine hl _ ?_ _ ?_
      ·exact (List.mem_filter.1 (hb1▸ List.mem_map.2 ⟨q,hq,rfl⟩)).1
      exact (List.mem_filter.1 (hb2▸ List.mem_map.2 ⟨q',hq',rfl⟩)).1
     simp only [DC] at c4
     simp at hyq hyq'
     rcases hyq with rfl|rfl<;>rcases hyq' with rfl|rfl<;>rcases c3 with c3|c3<;>omega
    exact WE R h.srt z hu y' hy' y (by simp only [Ex,List.mem_flatMap];exact ⟨q,hqR,hyq⟩)
   have i1:=ih _ _ hlow
   have e1:∀s,EW C s=EW (Ex B) s+(DH (C.filter fun x=>!decide (2≤x.2.length))).count s:=fun s=>by
    rw [O9 hC,SD];simp only [EW];rw [←hb1,LH]
   rw [e1,e1]
   have:=single _ _ f2 fun p hp q hq=>hl p (List.mem_filter.1 hp).1 q (List.mem_filter.1 hq).1
   omega
theorem Hh{α:Type}(l:List α):A2 (fun _=>1) l=l.length:=by
 induction l with
 | nil=>rfl
 | cons a l ih=>rw [A8,ih,List.length_cons];omega
theorem TB{S R:List Pk}{ss:List Int}(hS:Is S ss)(w:Int→Int)(hw:∀x∈S,x.1=isum w x.2)(h0:∀s∈ss,0≤w s)(h1:1≤ss.length)(h2:ss.length<32768)(hR:Ci S 16 R):
 2*ss.length-2≤R.length∧
 (∀s,EW (R.take (2*ss.length-2)) s≤16)∧(∀s,s∉ss→EW (R.take (2*ss.length-2)) s=0)∧
 A2 (fun s=>2^(16-EW (R.take (2*ss.length-2)) s)) ss≤2^16∧
 (∀len:Int→Nat,(∀s∈ss,len s≤16)→A2 (fun s=>2^(16-len s)) ss≤2^16→isum (fun s=>w s*(EW (R.take (2*ss.length-2)) s:Nat)) ss≤isum (fun s=>w s*(len s:Nat)) ss)∧
 (∀a b,b∈ss→w b<w a→EW (R.take (2*ss.length-2)) a≤EW (R.take (2*ss.length-2)) b):=by
 have hSl:=hS.len
 have hlong:=hR.long (by omega)
 have hd:S.length/2^(16-1)=0:=Nat.div_eq_of_lt (by omega)
 rw [hd] at hlong
 have hlen:2*ss.length-2≤R.length:=by omega
 obtain ⟨k1,k2,k3⟩:=hR.kraft hS _ (BP.take R (2*ss.length-2))
 have h0S:∀x∈S,0≤x.1:=fun x hx=>by
  obtain ⟨s,hs,e⟩:=hS.one x hx
  have:=hw x hx;rw [e] at this;simp [isum] at this
  have:=h0 s hs;omega
 refine ⟨hlen,k1,fun s hs=>List.count_eq_zero.2 fun hm=>hs (k3 s hm),?_,?_,fun a b hb hab=>hR.order hS w hw hb hab _ _ (dQ.take hR.srt _)⟩
 ·rw [List.length_take,Nat.min_eq_left hlen] at k2
  have e:A2 (fun s=>2^16-2^(16-EW (R.take (2*ss.length-2)) s)) ss+A2 (fun s=>2^(16-EW (R.take (2*ss.length-2)) s)) ss=ss.length*2^16:=by
   rw [←IL,Ce _ (fun _=>1*2^16) ss fun s _=>?_,IN,Hh]
   ·have:2^(16-EW (R.take (2*ss.length-2)) s)≤2^16:=Nat.pow_le_pow_right (by omega) (by omega)
    omega
  omega
 intro len hl hk
 obtain ⟨X,hX,hXl,hXw⟩:=hR.lower 16 (fun x=>len (x.2.headD 0)) h0S
 have conv1:A2 (fun x:Pk=>fN 16 (len (x.2.headD 0)) 16) S=A2 (fun s=>fN 16 (len s) 16) ss:=by
  have:S.map (fun x:Pk=>fN 16 (len (x.2.headD 0)) 16)=(S.map (·.2)).map fun l=>fN 16 (len (l.headD 0)) 16:=by rw [List.map_map];rfl
  simp only [A2];rw [this,hS.syms,List.map_map];rfl
 have conv2:isum (fun x:Pk=>x.1*(fC 16 (len (x.2.headD 0)) 16:Nat)) S=isum (fun s=>w s*(len s:Nat)) ss:=by
  have e1:S.map (fun x:Pk=>x.1*(fC 16 (len (x.2.headD 0)) 16:Nat))=(S.map (·.2)).map fun l=>isum w l*(fC 16 (len (l.headD 0)) 16:Nat):=by
   rw [List.map_map];exact List.map_congr_left fun x hx=>by simp only [Function.comp];rw [hw x hx]
  simp only [isum] at e1⊢;rw [e1,hS.syms,List.map_map]
  have:=ES (fun s=>(List.map w [s]).sum*(fC 16 (len s) 16:Nat)) (fun s=>w s*(len s:Nat)) ss fun s hs=>by rw [eC _ (hl s hs)];simp
  simp only [isum] at this
  exact this
 rw [conv1] at hXl
 rw [conv2] at hXw
 have e:A2 (fun s=>fN 16 (len s) 16) ss+A2 (fun s=>2^(16-len s)) ss=ss.length*2^16:=by
  rw [←IL,Ce _ (fun _=>1*2^16) ss fun s hs=>by rw [eD _ (hl s hs),Nat.one_mul],IN,Hh]
 have hm:2*ss.length-2≤X.length:=by
  rw [hXl,Nat.le_div_iff_mul_le (Nat.two_pow_pos _)]
  rw [show (2:Nat)^16=65536 from rfl] at e hk
  rw [show (16:Nat)-1=15 from rfl,show (2:Nat)^15=32768 from rfl]
  generalize A2 (fun s=>fN 16 (len s) 16) ss=A at e⊢
  generalize A2 (fun s=>2^(16-len s)) ss=B at e hk
  clear hXl hXw hX conv1 conv2 hd hlong hlen k1 k2 k3 hl
  omega
 have:=LI R hR.srt (hR.nonneg h0S) X _ hX hm
 have wt:D0 (R.take (2*ss.length-2))=isum (fun s=>w s*(EW (R.take (2*ss.length-2)) s:Nat)) ss:=by
  rw [Pw w _ fun x hx=>hR.weigh w hw x (List.mem_of_mem_take hx),Ki w ss hS.nd _ k3];rfl
 omega
theorem Ja{α:Type}(f:α→Nat){l:List α}{x:α}(h:x∈l):f x≤A2 f l:=by
 induction l with
 | nil=>cases h
 | cons a l ih=>rw [A8];rcases List.mem_cons.1 h with rfl|h;omega;have:=ih h;omega
theorem Vt{α:Type}(f:α→Nat){l:List α}{x y:α}(hx:x∈l)(hy:y∈l)(hn:x≠y):f x+f y≤A2 f l:=by
 induction l with
 | nil=>cases hx
 | cons a l ih=>
   rw [A8]
   rcases List.mem_cons.1 hx with e1|hx<;>rcases List.mem_cons.1 hy with e2|hy
   ·exact absurd (e1.trans e2.symm) hn
   ·have:=Ja f hy;rw [e1];omega
   ·have:=Ja f hx;rw [e2];omega
   have:=ih hx hy;omega
theorem Tg{ss:List Int}{f:Int→Nat}(hk:A2 (fun s=>2^(16-f s)) ss≤2^16){a b:Int}(ha:a∈ss)(hb:b∈ss)(hab:a≠b):1≤f a:=by
 have h1:2^(16-f a)+2^(16-f b)≤A2 (fun s=>2^(16-f s)) ss:=Vt (fun s=>2^(16-f s)) ha hb hab
 rcases Nat.lt_or_ge (f a) 1 with h|h
 ·have:f a=0:=by omega
  rw [this] at h1
  have:1≤2^(16-f b):=Nat.one_le_two_pow
  omega
 exact h
end Go.Proofs.YtohacgmhmbijmaaGreatDoor
namespace Go.Proofs.YtohacgmhmbijmaaGreatDoor
attribute [local irreducible] Region.wanted
open Go.RowKit
set_option linter.unusedVariables false
set_option maxRecDepth 100000
set_option maxHeartbeats 8000000
theorem ON(w:World)(n:Int):Calls Tryz.prog 130 #[.int .i64 n] w fun e w'=>e= .returned (.bool (decide (n<0)||decide (9999<n)))∧w=w':=by
 by_cases h:n<0
 ·have h2:decide (n<0)=true:=by simpa using h
  rw [h2]
  go_enter Tryz.func130,Tryz.ntmps130
  go_wp2_with fail
  go_ret
  exact ⟨rfl,rfl⟩
 have h2:decide (n<0)=false:=by simpa using h
 rw [h2,Bool.false_or]
 have h3:0≤n:=by omega
 clear h
 go_enter Tryz.func130,Tryz.ntmps130
 go_wp2_with fail
 go_ret
 exact ⟨rfl,rfl⟩
def bE(c:List Int):Int:=if 256<c.length then 2 else if Bt c 0 9999 then 0 else 1
theorem KR(w0:World)(c:List Int)(ad:Option Addr)(n cap:Nat)(hv:Sl w0 1 (.slice ad n cap) n (c.map (Value.int .i64)))(hn:n≤9223372036854775807):
 Calls Tryz.prog 102 #[.slice ad n cap] w0 fun e w=>e= .returned (.int .i64 (bE c))∧Ai w0 w:=by
 have hl:c.length=n:=by have:=hv.1;simpa using this
 have hS:=St.start w0
 have HC:=AD (fun (w:World)(hE:Ai w0 w)=>BC w (.slice ad n cap) c (by unfold OG;rw [hl];exact hv.ext hE) 130 #[] (fun n=>decide (n<0)||decide (9999<n)) Tryz.call130 (fun m=>ON w m))
 obtain ⟨B,hB⟩:∃B,c.any (fun n=>decide (n<0)||decide (9999<n))=B:=⟨_,rfl⟩
 have hE:bE c=if 256<n then 2 else if B then 1 else 0:=by
  unfold bE Bt;rw [hl,hB]
  cases B<;>rfl
 rw [hB] at HC
 rw [hE]
 clear hE hB hv
 by_cases h256:256<n
 ·rw [if_pos h256]
  go_enter Tryz.func102,Tryz.ntmps102
  repeat' (first
   | refine X0 ?_|refine TA 5 ?_|refine KN 6 ?_|refine AG ?_;go_step|fail)
  go_ret
  exact ⟨rfl,hS.1⟩
 rw [if_neg h256]
 cases B with
 | true=>
   rw [if_pos rfl]
   go_enter Tryz.func102,Tryz.ntmps102
   repeat' (first
    | refine X0 ?_|refine TA 5 ?_|refine KN 6 ?_|refine AG ?_;go_step|fail)
   repeat' (first
    | (refine As 76 ?_);refine At AA Tryz.call76 (HC.out _ hS.1) ?_;rintro e w ⟨rfl,rfl⟩;refine Ac ?_;go_step|refine X8 ?_|refine AG ?_;go_step|fail)
   all_goals go_ret
   all_goals exact ⟨rfl,hS.1⟩
 | false=>
   rw [if_neg (by decide)]
   go_enter Tryz.func102,Tryz.ntmps102
   repeat' (first
    | refine X0 ?_|refine TA 5 ?_|refine KN 6 ?_|refine AG ?_;go_step|fail)
   repeat' (first
    | (refine As 76 ?_);refine At AA Tryz.call76 (HC.out _ hS.1) ?_;rintro e w ⟨rfl,rfl⟩;refine Ac ?_;go_step|refine X8 ?_|refine AG ?_;go_step|fail)
   all_goals go_ret
   all_goals exact ⟨rfl,hS.1⟩
structure GP where
 w:Int
 r:Sr
def Fq(p:GP):DY:=⟨p.w,p.r.ad,p.r.xs.length,p.r.c⟩
def FU(p:GP):Pk:=(p.w,p.r.xs)
theorem R8(G:List GP)(p:GP):((G++[p]).map Fq).flatMap L3=(G.map Fq).flatMap L3++[.int .i64 p.w, .slice p.r.ad p.r.xs.length p.r.c]:=by
 rw [List.map_append,List.flatMap_append];rfl
theorem bz(G H:List GP):((G++H).map Fq).flatMap L3=(G.map Fq).flatMap L3++(H.map Fq).flatMap L3:=by
 rw [List.map_append,List.flatMap_append]
def Je(c:List Int)(k:Nat):List Pk:=(0,[-1])::((List.range k).filter fun s=>decide (0<AJ c s)).map fun s=>(AJ c s,[(s:Int)])
theorem WW(c:List Int)(k:Nat):Je c (k+1)=if 0<AJ c k then Je c k++[(AJ c k,[(k:Int)])] else Je c k:=by
 unfold Je
 rw [List.range_succ,List.filter_append]
 by_cases h:0<AJ c k
 ·rw [if_pos h,List.filter_cons_of_pos (by simpa using h)];simp
 rw [if_neg h,List.filter_cons_of_neg (by simpa using h)];simp
theorem ZI(c:List Int)(k:Nat):(Je c k).length≤k+1:=by
 unfold Je
 have:=List.length_filter_le (fun s=>decide (0<AJ c s)) (List.range k)
 simp at this⊢
 exact this
theorem Ci.syll{S R:List Pk}{k:Nat}(h:Ci S k R):(DH R).length≤k*(DH S).length:=by
 induction h with
 | one R p _=>have:=(FF p).length_eq;omega
 | @more k R Q h p _ ih=>
   have h1:=(FF p).length_eq
   rw [CQ,List.length_append] at h1
   obtain ⟨z,hu,_⟩:=Dp R
   have h2:DH (Em R)=DH (Ex (Lh R)):=LH (Lh R)
   have h3:=congrArg (fun l=>(DH l).length) hu
   simp only [CQ,List.length_append] at h3
   rw [h2] at h1
   rw [Nat.add_mul,Nat.one_mul]
   omega
theorem ZV{R:List Pk}{x:Pk}(h:x∈R):x.2.length≤(DH R).length:=by
 induction R with
 | nil=>cases h
 | cons a R ih=>
   rw [Ec,List.length_append]
   rcases List.mem_cons.1 h with rfl|h
   ·omega
   have:=ih h;omega
theorem Tw(R:List Pk)(q:Nat)(h:2*q+1<R.length):(Em R).take (q+1)=(Em R).take q++[DC (Am R (2*q),Am R (2*q+1))]:=by
 induction q generalizing R with
 | zero=>
   match R,h with
   | a::b::l,_=>simp [Em,Lh,Am]
 | succ q ih=>
   match R,h with
   | a::b::l,h=>
     have e:=ih l (by simp at h;omega)
     have e1:Em (a::b::l)=DC (a,b)::Em l:=by simp [Em,Lh]
     rw [e1,List.take_succ_cons,e,List.take_succ_cons,List.cons_append]
     congr 3
theorem YW{α:Type}[Inhabited α](l:List α)(i:Nat)(h:i<l.length):l[i]=Am l i:=by simp [Am,h]
theorem VV(G:List GP)(k:Nat)(h:k<G.length):∃p,p∈G∧Am (G.map Fq) k=Fq p∧Am (G.map FU) k=FU p:=by
 refine ⟨G[k],List.getElem_mem h,?_,?_⟩
 ·simp [Am,h]
 simp [Am,h]
theorem Ci.wbd{S R:List Pk}{k:Nat}(h0:∀x∈S,0≤x.1∧x.1≤9999*x.2.length)(h:Ci S k R):∀x∈R,0≤x.1∧x.1≤9999*x.2.length:=by
 induction h with
 | one R p _=>exact fun x hx=>h0 x (p.mem_iff.1 hx)
 | @more k R Q h p _ ih=>
   intro x hx
   rcases List.mem_append.1 (p.mem_iff.1 hx) with hx|hx
   ·obtain ⟨q,hq,rfl⟩:=List.mem_map.1 hx
    have h1:=ih q.1 (IT hq).1
    have h2:=ih q.2 (IT hq).2
    simp only [DC,List.length_append]
    push_cast
    omega
   exact h0 x hx
theorem cK(c:List Int)(n k:Nat)(h:∀i,i<n→0≤AJ c i∧AJ c i≤9999)(hk:k≤n):∀x∈Je c k,0≤x.1∧x.1≤9999*x.2.length:=by
 intro x hx
 rcases List.mem_cons.1 hx with rfl|hx
 ·simp
 obtain ⟨s,hs,rfl⟩:=List.mem_map.1 hx
 have h1:=(List.mem_filter.1 hs).1
 have:=h s (by simp at h1;omega)
 simp;omega
theorem Nk(c:List Int)(k:Nat):(DH (Je c k)).length=(Je c k).length:=by
 have:∀l:List Nat,(DH (l.map fun s=>(AJ c s,[(s:Int)]))).length=l.length:=fun l=>by
  induction l with
  | nil=>rfl
  | cons a l ih=>rw [List.map_cons,Ec,List.length_append,ih];simp;omega
 unfold Je
 rw [Ec,List.length_append,this]
 simp;omega
theorem WL{c:List Int}{n j:Nat}{R:List Pk}(h:∀i,i<n→0≤AJ c i∧AJ c i≤9999)(hn:n≤256)(hj:j≤16)(hR:Ci (Je c n) j R):∀x∈R,0≤x.1∧x.1≤50000000∧x.2.length≤5000:=by
 intro x hx
 have h1:=hR.wbd (cK c n n h (Nat.le_refl _)) x hx
 have h2:=hR.syll
 have h3:=ZV hx
 have h4:=ZI c n
 rw [Nk] at h2
 have h5:j*(Je c n).length≤16*257:=Nat.mul_le_mul hj (by omega)
 omega
def KV(l:List Int)(s:Int):Option Value:=if l.count s=0 then none else some (.int .i64 (l.count s:Nat))
theorem TO(l:List Int)(s:Int):(fun j=>if j=s then some (Value.int .i64 ((l.count s+1:Nat):Int)) else KV l j)=KV (l++[s]):=by
 funext j
 unfold KV
 rw [List.count_append]
 by_cases h:j=s
 ·subst h;simp
 have:List.count j [s]=0:=by rw [List.count_eq_zero];simp [h]
 rw [if_neg h,this,Nat.add_zero]
theorem U7:KV []=fun _=>none:=by funext j;simp [KV]
def B8(f:Int→Nat)(n k:Nat):List Int:=((List.range n).filter fun (s:Nat)=>decide (f (s:Int)=k)).map fun (s:Nat)=>(s:Int)
theorem Hq(f:Int→Nat)(n k:Nat):B8 f (n+1) k=if f (n:Int)=k then B8 f n k++[(n:Int)] else B8 f n k:=by
 unfold B8
 rw [List.range_succ,List.filter_append]
 by_cases h:f (n:Int)=k
 ·rw [if_pos h,List.filter_cons_of_pos (by simpa using h)];simp
 rw [if_neg h,List.filter_cons_of_neg (by simpa using h)];simp
def C9(f:Int→Nat)(n k:Nat):List Int:=(List.range k).flatMap fun i=>B8 f n (i+1)
theorem DD(f:Int→Nat)(n k:Nat):C9 f n (k+1)=C9 f n k++B8 f n (k+1):=by
 unfold C9;rw [List.range_succ,List.flatMap_append];simp
theorem Gl(f:Int→Nat)(n k:Nat):(B8 f n k).length≤n:=by
 have:=List.length_filter_le (fun s:Nat=>decide (f (s:Int)=k)) (List.range n)
 simp [B8] at this⊢;exact this
theorem Q9(f:Int→Nat)(n k:Nat):(C9 f n k).length≤k*n:=by
 induction k with
 | zero=>simp [C9]
 | succ k ih=>rw [DD,List.length_append,Nat.add_mul,Nat.one_mul];have:=Gl f n (k+1);omega
def Gv(f:Int→Nat)(n k s i:Nat):Int:=if i<k then ((B8 f n (i+1)).length:Nat) else if i=k then ((B8 f s (i+1)).length:Nat) else 0
end Go.Proofs.YtohacgmhmbijmaaGreatDoor
