/- What the laws OwnMemory need, part 7. -/
import Derived.Test.YtkcbhcajfcfmmaaDoorBaseOZ1
import Derived.Test.YtkcbhcajfcfmmaaDoorBaseOZ2
import Derived.Test.YtkcbhcajfcfmmaaDoorBaseOZ3
import Derived.Test.YtkcbhcajfcfmmaaDoorBaseOZ4
import Derived.Test.YtkcbhcajfcfmmaaDoorBaseOZ6
import Derived.Lib.AppendZeros
import Derived.Laws.Cover3
namespace Go.Proofs.YtkcbhcajfcfmmaaDoor
attribute [local irreducible] Region.wanted
open Go.RowKit
set_option linter.unusedVariables false
set_option maxRecDepth 100000
set_option maxHeartbeats 8000000
theorem Gg{lo hi:Nat}{P:List Bg}(h:hi≤lo):Bp Bg.w lo hi P:=fun i j h1 h2 h3=>by omega
theorem Ea{lo hi lo' hi':Nat}{P:List Bg}(h:Bp Bg.w lo hi P)(h1:lo=lo')(h2:hi'≤hi):Bp Bg.w lo' hi' P:=by subst h1;exact h.sub (Nat.le_refl _) h2
def MD(s n:Nat)(P:List Bg):Prop:=∀k,Bp Bg.w (k*s) (min (k*s+s) n) P
theorem IW(W w0:World)(rs rs':List Ac)(g n c:Nat)(P:List Bg)(hS:St W w0 rs)(hp:AI (BF g n c P) rs rs')(hn:n≤100000):
 Calls Tryd.prog 38 #[.slice (some ⟨g,0,none⟩) n c, .int .i64 n,M7] w0 fun e w=>e= .returned (.tuple #[])∧∃Q,Bp Bg.w 0 n Q∧Rg 0 n P Q∧St W w (BF g n c Q::rs'):=by
 replace hS:=hS.pull hp
 have hPl:=B7 hS AI.head BP (by decide)
 clear hp
 go_enter Tryd.func38,Tryd.ntmps38
 repeat' (first
  | refine X0 ?_|refine AG ?_;go_step|fail)
 go_loopg [7,8] n (fun gk av bv w=>∃(k a:Nat) (Q:List Bg),gk+k=n∧a=k*20∧a≤n∧av= .int .i64 a∧bv= .int .i64 (a+20:Nat)∧(∀j,j<k→Bp Bg.w (j*20) (j*20+20) Q)∧Rg 0 n P Q∧St W w (BF g n c Q::rs'))
 case atStart=>exact ⟨0,0,P,by omega,rfl,by omega,rfl,rfl,fun j h=>by omega,Rg.refl _ _ _,hS⟩
 case round=>
  clear hS
  obtain ⟨k,a,Q,hk,ha,han,rfl,rfl,hA,hR,hS⟩:=hrel
  have HA:=AD hA
  have HR:=AD hR
  have hQl:=hR.len
  clear hA hR
  by_cases hlt:a+20≤n
  ·have HC:=AD (fun (w:World)(hS:St W w (BF g n c Q::rs'))=>EG W w (BF g n c Q::rs') rs' g n c a (a+20) Q hS AI.head (by omega) hlt (by omega))
   repeat' (first
    | (refine AU 22 ?_);(refine AP (.int _ (((a+20+20:Nat):Int))) (V.as (V.addI rfl rfl (by omega)) (by omega)) (by kernel_rfl) ?_;go_step)|(refine Am 47 ?_);refine An AB Tryd.call47 (HC.out _ hS) ?_;rintro e w ⟨rfl,Z,hZ1,hZ2,hS2⟩;replace hS:=hS2;clear hS2;refine As ?_;go_step|refine X0 ?_|refine NT 13 ?_|refine AG ?_;go_step|fail)
   go_roundg (gk-1)
   case measure=>omega
   case rel=>
    refine ⟨k+1,a+20,Z,by omega,by omega,by omega,rfl,by go_num,fun j hj=>?_,HR.out.trans (hZ2.wide (by omega) (by omega) (by omega) (by omega)),hS⟩
    by_cases hjk:j=k
    ·subst hjk;rw [←ha];exact hZ1
    exact (HA.out j (by omega)).same fun x k1 k2=>hZ2.out x (by omega)
  have HC:=AD (fun (w:World)(hS:St W w (BF g n c Q::rs'))=>EG W w (BF g n c Q::rs') rs' g n c a n Q hS AI.head (by omega) (by omega) (by omega))
  repeat' (first
   | refine X1 ?_|refine NT 13 ?_|refine AG ?_;go_step|fail)
  repeat' (first
   | (refine Am 47 ?_);refine An AB Tryd.call47 (HC.out _ hS) ?_;rintro e w ⟨rfl,Z,hZ1,hZ2,hS2⟩;replace hS:=hS2;clear hS2;refine As ?_;go_step|refine AG ?_;go_step|fail)
  have hB:MD 20 n Z:=fun j=>by
   by_cases h1:j<k
   ·exact ((HA.out j h1).same fun x k1 k2=>hZ2.out x (by omega)).sub (Nat.le_refl _) (Nat.min_le_left _ _)
   by_cases h2:j=k
   ·subst h2;rw [←ha];exact hZ1.sub (Nat.le_refl _) (Nat.min_le_right _ _)
   exact Gg (by omega)
  have hRZ:Rg 0 n P Z:=HR.out.trans (hZ2.wide (by omega) (by omega) (by omega) (by omega))
  have HB:=AD hB
  have HRZ:=AD hRZ
  clear hB hRZ HR HA HC hZ1 hZ2
  go_loopg [6] (n-20) (fun gk sv w=>∃(s:Nat) (Q:List Bg),gk+s=max n s∧1≤s∧s≤2*n+20∧sv= .int .i64 s∧MD s n Q∧Rg 0 n P Q∧St W w (BF g n c Q::rs'))
  case atStart=>exact ⟨20,Z,by omega,by omega,by omega,rfl,HB.out,HRZ.out,hS⟩
  case round=>
   clear hS HB HRZ
   obtain ⟨s,Q,hk,hs1,hs2,rfl,hB,hR,hS⟩:=hrel
   have HB:=AD hB
   have HR:=AD hR
   have hQl:=hR.len
   clear hB hR
   by_cases hlt2:s<n
   ·obtain ⟨gk1,hgk1⟩:∃x,x=gk:=⟨_,rfl⟩
    subst hgk1
    obtain ⟨t,ht⟩:∃t,t=2*s:=⟨_,rfl⟩
    repeat' (first
     | refine N9 32 ?_|refine X0 ?_|refine X2 30 ?_|refine AG ?_;go_step|fail)
    go_loopg [7,8] n (fun gk av bv w=>∃(k a:Nat) (Q:List Bg),gk+k=n∧a=k*t∧a≤n∧av= .int .i64 a∧bv= .int .i64 (a+t:Nat)∧(∀j,j<k→Bp Bg.w (j*t) (j*t+t) Q)∧(∀j,2*k≤j→Bp Bg.w (j*s) (min (j*s+s) n) Q)∧Rg 0 n P Q∧St W w (BF g n c Q::rs'))
    case atStart=>exact ⟨0,0,Q,by omega,by omega,by omega,rfl,by rw [Nat.zero_add],fun j h=>by omega,fun j _=>HB.out j,HR.out,hS⟩
    case round=>
     clear hS HB HR
     obtain ⟨k,a,Q,hk3,ha,han,rfl,rfl,hA,hA2,hR,hS⟩:=hrel
     have hQl:=hR.len
     have m1:2*k*s=a:=by rw [ha,ht,Nat.mul_comm 2 k,Nat.mul_assoc]
     have m2:(2*k+1)*s=a+s:=by rw [Nat.add_mul,m1,Nat.one_mul]
     have m3:(k+1)*t=a+t:=by rw [Nat.add_mul,Nat.one_mul,←ha]
     have m4:∀j,2*k+2≤j→a+t≤j*s:=fun j hj=>by
      have:=Nat.mul_le_mul_right s hj
      rw [show (2*k+2)*s=a+t by rw [Nat.add_mul,m1,ht]] at this
      exact this
     have m5:∀j,j<k→j*t+t≤a:=fun j hj=>by
      have:=Nat.mul_le_mul_right t hj
      rw [Nat.succ_mul,←ha] at this
      exact this
     have m6:∀j,k<j→a+t≤j*t:=fun j hj=>by
      have:=Nat.mul_le_mul_right t hj
      rw [show (k.succ)*t=a+t from m3] at this
      exact this
     have hkt:k≤k*t:=Nat.le_mul_of_pos_right k (by omega)
     rw [←ha] at hkt
     have a1:=hA2 (2*k) (Nat.le_refl _)
     have a2:=hA2 (2*k+1) (by omega)
     rw [m1] at a1
     rw [m2] at a2
     have HA:=AD hA
     have HA2:=AD hA2
     have HR:=AD hR
     have M3:=AD m3
     have M4:=AD m4
     have M5:=AD m5
     have M6:=AD m6
     have Ha:=AD ha
     clear hA hA2 hR m1 m2 m3 m4 m5 m6 ha
     by_cases hlt:a+t≤n
     ·have HC:=AD (fun (w:World)(hS:St W w (BF g n c Q::rs'))=>Dm n W w (BF g n c Q::rs') rs' g n c a (a+s) (a+t) Q (by omega) hS AI.head (by omega) (by omega) hlt (by omega) (Ea a1 rfl (by omega)) (Ea a2 rfl (by omega)))
      clear a1 a2
      repeat' (first
       | refine OU 40 ?_|refine N9 47 ?_|(refine AU 48 ?_);(refine AP (.int _ (((a+t+t:Nat):Int))) (V.as (V.addI rfl rfl (by omega)) (by omega)) (by kernel_rfl) ?_;go_step)|(refine Am 48 ?_);refine An AB Tryd.call48 (HC.out _ hS) ?_;rintro e w ⟨rfl,Z,hZ1,hZ2,hS2⟩;replace hS:=hS2;clear hS2;refine As ?_;go_step|refine X0 ?_|refine NT 35 ?_|refine AG ?_;go_step|fail)
      go_roundg (gk-1)
      case measure=>omega
      case rel=>
       refine ⟨k+1,a+t,Z,by omega,M3.out.symm,by omega,rfl,by go_num,fun j hj=>?_,fun j hj=>?_,HR.out.trans (hZ2.wide (by omega) (by omega) (by omega) (by omega)),hS⟩
       ·by_cases hjk:j=k
        ·subst hjk;rw [←Ha.out];exact hZ1
        have:=M5.out j (by omega)
        exact (HA.out j (by omega)).same fun x k1 k2=>hZ2.out x (by omega)
       have:=M4.out j (by omega)
       exact (HA2.out j (by omega)).same fun x k1 k2=>hZ2.out x (by omega)
     have HF:Hid (∀Z,Bp Bg.w a n Z→Rg a n Q Z→MD t n Z∧Rg 0 n P Z):=fun Z hZ1 hZ2=>⟨fun j=>by
      by_cases h1:j<k
      ·have:=M5.out j h1
       exact ((HA.out j h1).same fun x k1 k2=>hZ2.out x (by omega)).sub (Nat.le_refl _) (Nat.min_le_left _ _)
      by_cases h2:j=k
      ·subst h2;rw [←Ha.out];exact hZ1.sub (Nat.le_refl _) (Nat.min_le_right _ _)
      have:=M6.out j (by omega)
      exact Gg (by omega),HR.out.trans (hZ2.wide (by omega) (by omega) (by omega) (by omega))⟩
     by_cases hm:a+s<n
     ·have HC:=AD (fun (w:World)(hS:St W w (BF g n c Q::rs'))=>Dm n W w (BF g n c Q::rs') rs' g n c a (a+s) n Q (by omega) hS AI.head (by omega) hm (by omega) (by omega) (Ea a1 rfl (by omega)) (Ea a2 rfl (by omega)))
      clear a1 a2
      repeat' (first
       | refine X1 ?_|refine NT 35 ?_|refine AG ?_;go_step|fail)
      repeat' (first
       | refine OU 51 ?_|refine N9 62 ?_|(refine Am 48 ?_);refine An AB Tryd.call48 (HC.out _ hS) ?_;rintro e w ⟨rfl,Z,hZ1,hZ2,hS2⟩;replace hS:=hS2;clear hS2;refine As ?_;go_step|refine X0 ?_|refine X2 54 ?_|refine AG ?_;go_step|fail)
      obtain ⟨b1,b2⟩:=HF.out Z hZ1 hZ2
      go_roundg (n-t)
      case measure=>omega
      case rel=>exact ⟨t,Z,by omega,by omega,by omega,by go_num,b1,b2,hS⟩
     obtain ⟨b1,b2⟩:=HF.out Q (Ea a1 rfl (by omega)) (Rg.refl _ _ _)
     have B1:=AD b1
     have B2:=AD b2
     clear a1 a2 b1 b2
     repeat' (first
      | refine X1 ?_|refine NT 35 ?_|refine AG ?_;go_step|fail)
     repeat' (first
      | refine OU 51 ?_|refine X0 ?_|refine X2 54 ?_|refine AG ?_;go_step|fail)
     repeat' (first
      | refine N9 62 ?_|refine X8 ?_|refine AG ?_;go_step|fail)
     go_roundg (n-t)
     case measure=>omega
     case rel=>exact ⟨t,Q,by omega,by omega,by omega,by go_num,B1.out,B2.out,hS⟩
   repeat' (first
    | refine X1 ?_|refine X2 30 ?_|refine AG ?_;go_step|fail)
   go_end0
   have:=HB.out 0
   rw [Nat.zero_mul,Nat.zero_add] at this
   exact ⟨rfl,Q,this.sub (Nat.le_refl _) (by omega),HR.out,hS⟩
theorem Cl(W w0:World)(rs rs':List Ac)(g n c:Nat)(P:List Bg)(hS:St W w0 rs)(hp:AI (BF g n c P) rs rs')(hn:n≤100000):
 Calls Tryd.prog 26 #[.slice (some ⟨g,0,none⟩) n c,M7] w0 fun e w=>e= .returned (.tuple #[])∧∃Q,Q.Perm P∧Q.Pairwise (fun a b=>a.w≤b.w)∧St W w (BF g n c Q::rs'):=by
 replace hS:=hS.pull hp
 have hPl:=B7 hS AI.head BP (by decide)
 have HC:=AD (fun (w:World)(hS:St W w (BF g n c P::rs'))=>IW W w (BF g n c P::rs') rs' g n c P hS AI.head hn)
 clear hp
 go_enter Tryd.func26,Tryd.ntmps26
 repeat' (first
  | (refine Am 38 ?_);refine An AB Tryd.call38 (HC.out _ hS) ?_;rintro e w ⟨rfl,Z,hZ1,hZ2,hS2⟩;replace hS:=hS2;clear hS2;refine As ?_;go_step|refine X1 ?_|(with_reducible refine Az _ (.call ⟨.builtin .len,_,_⟩) ?_);(refine Av AB (V.len Tryd.underlying63 rfl) ?_;go_step)|refine AG ?_;go_step|fail)
 go_end0
 rw [←hPl] at hZ1 hZ2
 have hl:=hZ2.len
 exact ⟨rfl,Z,hZ2.all,Bp.pair (hl.symm▸ hZ1),hS⟩
theorem Eg(g c s:Nat):cutAt (some ⟨g,0,none⟩) c 0 s=some ⟨g,0,none⟩:=by
 unfold cutAt
 split
 ·rfl
 rw [Option.map_some,Addr.add_mid,Nat.zero_mul]
section
variable{P:Program}{W w:World}{rs rs':List Ac}{Q:Exit→Act→World→Prop}{K:Act→World→Prop}{o:Oper}{a:Act}
theorem Ia(hS:St W w rs)(s x:Operand)(t tn:TypeId)(ho:o.op= .call {callee:= .builtin .append,args:=#[s,x],argTypes:=#[t,tn]})(e:TypeId)(b:Nat)(k:IntKind)(el:EC P t e k 1 b)(kn:IntKind)(htn:P.underlying tn=some (.int kn))
 (hs:a.eval s= .slice none 0 0) (k2:IntKind) (n:Nat) (hx:a.eval x= .int k2 n) (h0:0<n) (h63:n≤maxLen) (hb:n*b≤281474976710656)
 (h:∀g c' w',n≤c'→c'≤maxLen→St W w' (own e 1 (some ⟨g,0,none⟩) 0 c' []::rs)→K (a.put o.dst (.slice (some ⟨g,0,none⟩) n c')) w'):o.wp P a w K Q:=by
 obtain ⟨ht,⟨i,z,hi,hz,hsz,hby,hzc⟩,_⟩:=el
 have hr:=Lib.run_append_nil_zeros (P:=P) w t tn o.type e i z k2 kn ht htn hi hz n h0 (by omega) (by unfold maxLen at h63;omega) (by rw [hby];exact hb)
 have hg1:=grownCap_ge w n 0 e
 have hg2:=grownCap_le_maxLen w n 0 e h63
 obtain ⟨G,hG⟩:∃G,grownCap w n 0 e=G:=⟨_,rfl⟩
 rw [hG] at hr hg1 hg2
 refine Lib.wp_append_run w s x t tn ho _ _ hs hx _ _ hr (h _ _ _ hg1 hg2 ?_)
 have hS2:=hS.drew
 obtain ⟨h1,f,h2,h3,h4⟩:=hS2
 refine ⟨h1.alloc _,w.heap.size::f,List.nodup_cons.2 ⟨fun hm=>by have:=h4.lt _ hm;exact absurd this (Nat.lt_irrefl _),h2⟩,fun b hb=>?_,[w.heap.size],f,rfl,⟨rfl,rfl, .inr ⟨w.heap.size,G,_,rfl,Nat.zero_le _,heap_alloc_new w.drew _,Nat.zero_le _,hg2,?_,by simp⟩⟩,h4.loc fun b hb=>?_⟩
 ·rcases List.mem_cons.1 hb with h|h
  ·rw [h];exact h1.sz
  exact h3 b h
 ·rw [Array.size_append,size_zeroCells,size_zeroCells,hzc,Array.size_replicate];omega
 exact heap_alloc_old w.drew _ (h4.lt b hb)
end
theorem V.cap{P:Program}{a:Act}{x:Operand}{t ty:TypeId}{ad:Option Addr}{n c:Nat}{e:TypeId}(ht:P.underlying t=some (.slice e))(hx:a.eval x= .slice ad n c):CG P (.call {callee:= .builtin .cap,args:=#[x],argTypes:=#[t]}) ty a (.int .i64 c):=fun d pos af g w=>by
 have e:P.elem t=e:=by simp [Program.elem,ht]
 have e2:=run_cap_slice (P:=P) w t ty ad n c (by rw [e];exact ht)
 simp only [execOp,resolve,invoke,builtin,Sem.run_bind,Sem.run_pure,Result.andThen_ok,List.map_toArray,List.map_cons,List.map_nil,hx,e2]
 rfl
theorem KR(w0:World)(n:Nat)(hn:n≤1000000):Calls Tryd.prog 40 #[.slice none 0 0, .int .i64 n] w0 fun e w=>∃(ad:Option Addr) (c:Nat),e= .returned (.slice ad 0 c)∧St w0 w [own 3 1 ad 0 c []]:=by
 have hS:=St.start w0
 go_enter Tryd.func40,Tryd.ntmps40
 by_cases h0:n=0
 ·subst h0
  repeat' (first
   | refine X0 ?_|refine X2 6 ?_|refine AG ?_;go_step|fail)
  repeat' (first
   | refine OX 13 ?_|refine OX 14 ?_|refine X0 ?_|(refine AU 10 ?_);(refine Av AB (V.cap Tryd.underlying23 rfl) ?_;go_step)|refine JH 12 ?_|refine Gf 16 ?_|refine AG ?_;go_step|fail)
  repeat' (first
   | refine AG ?_;go_step|fail)
  go_ret
  exact ⟨none,0,rfl,hS.nil 3 1⟩
 repeat' (first
  | refine X0 ?_|refine X2 6 ?_|refine AG ?_;go_step|fail)
 repeat' (first
  | refine OX 13 ?_|(refine AU 14 ?_);(refine AP (.int _ (((n:Nat):Int))) (V.as (V.subI rfl rfl (by omega)) (by omega)) (by kernel_rfl) ?_;go_step)|refine X0 ?_|(refine AU 10 ?_);(refine Av AB (V.cap Tryd.underlying23 rfl) ?_;go_step)|refine JH 12 ?_|refine Gf 16 ?_|refine AG ?_;go_step|fail)
 repeat' (first
  | (refine AU 20 ?_);refine AP (.slice none 0 0) (V.slice Tryd.underlying23 DC rfl .none (.some rfl (show At ((0:Nat):Int) 0 from rfl)) (Nat.le_refl _) (Nat.le_refl _)) AB ?_;go_step|(refine AU 22 ?_);refine A3 ?_;refine Ia (o:=⟨some 22,_,_,_,_,_⟩) hS _ _ 23 3 rfl 3 8 .i64 NZ .i64 Tryd.underlying3 rfl .i64 n rfl (by omega) (by unfold maxLen;omega) (by omega) ?_;clear hS;intro g22 c22 w hc1 hc2 hS;refine AC ?_;go_step|refine X0 ?_|(refine AU 19 ?_);(refine Av AB (V.cap Tryd.underlying23 rfl) ?_;go_step)|refine JH 24 ?_|(refine AU 25 ?_);(refine Av AB (V.slice Tryd.underlying23 DC rfl (by (first|exact Lo.none|exact Lo.some rfl BL)) (by (first|exact Up.none|exact Up.some rfl BL)) (by omega) (by omega)) ?_;go_step)|refine AG ?_;go_step|fail)
 go_ret
 refine ⟨some ⟨g22,0,none⟩,c22,?_,hS⟩
 show Ending.returned (.slice (cutAt (some ⟨g22,0,none⟩) c22 0 1) (0-0) (c22-0))=_
 rw [Eg]
 rfl
theorem AI.mem2:∀(ss rs:List Ac)(r:Ac),∃ss',AI r (ss++r::rs) ss'
 | [],rs,r=>⟨rs, .head⟩
 | x::ss,rs,r=>by obtain ⟨s,hs⟩:=AI.mem2 ss rs r;exact ⟨x::s, .tail hs⟩
theorem Iy(P:List Bg):∀u∈P.flatMap FY,u.oneCell'=true:=fun u hu=>by
 obtain ⟨p,_,h⟩:=List.mem_flatMap.1 hu
 simp only [FY,List.mem_cons,List.mem_nil_iff,or_false] at h
 rcases h with rfl|rfl<;>rfl
theorem V.eqlNilS{P:Program}{a:Act}{x y:Operand}{t ty u e:TypeId}{ad:Option Addr}{n c:Nat}(ht:P.underlying t=some (.slice e))(hg:P.eqGuardType P.depth t=false)(hx:a.eval x= .slice ad n c)(hy:a.eval y= .slice none 0 0):CG P (.binOp .eql t x y u) ty a (.bool ad.isNone):=fun d pos af g w=>by
 have e1:(eqGuard .eql t x y (.slice ad n c) (.slice none 0 0)).run P w= .ok () w:=by
  unfold eqGuard
  simp
 have e2:(binOp .eql t (.slice ad n c) (.slice none 0 0)).run P w= .ok (.bool ad.isNone) w:=by
  have:binOp .eql t (.slice ad n c) (.slice none 0 0)=(do pure (.bool (←Op.equal t (.slice ad n c) (.slice none 0 0)))):=rfl
  rw [this]
  simp only [Sem.run_bind,run_equal_slice_nil w t e ad n c ht,Result.andThen_ok,Sem.run_pure]
 simp only [execOp,hx,hy,Sem.run_bind,e1,Result.andThen_ok,e2,Sem.run_pure]
section
variable{P:Program}{W w:World}{rs rs':List Ac}{Q:Exit→Act→World→Prop}{K:Act→World→Prop}{o:Oper}{a:Act}
theorem E9(hS:St W w rs)(t:TypeId)(ho:o.op= .buildSlice t 0 #[])(e:TypeId)(s b:Nat)(el:BT P t e s b)
 (h:∀g w',St W w' (own e s (some ⟨g,0,none⟩) 0 0 []::rs)→K (a.put o.dst (.slice (some ⟨g,0,none⟩) 0 0)) w'):o.wp P a w K Q:=by
 obtain ⟨ht,⟨i,z,hi,hz,hsz,hb,hzs⟩,hp⟩:=el
 have hr:(Instr.buildSlice t 0 #[]).run P w= .ok (.slice (some ⟨w.heap.size,0,none⟩) 0 0) (w.alloc (.cells #[] e)):=by
  simp [Instr.buildSlice,run_underlying ht,sizeOf,typeInfo,hi,Instr.fill,newRow]
  rw [Array.eq_empty_of_size_eq_zero (xs:=Array.map (fun x=>default) (Array.range 0)) (by simp)]
 have hst:=hS.allocOwn e s 0 [] (by simp) (Nat.zero_le _)
 unfold Oper.wp execOp
 simp only [ho,Sem.run_bind,Array.map_empty,hr,Result.andThen_ok,Sem.run_pure]
 exact h _ _ hst
end
theorem JM(W w0:World)(rs rs':List Ac)(g n c:Nat)(P:List Bg)(hS:St W w0 rs)(hp:AI (BF g n c P) rs rs')(hn:n≤100000)(hn0:0<n):
 Calls Tryd.prog 28 #[.slice (some ⟨g,0,none⟩) n c] w0 fun e w=>∃(g' c':Nat),e= .returned (.slice (some ⟨g',0,none⟩) n c')∧St W w (BF g' n c' P::BF g n c P::rs'):=by
 replace hS:=hS.pull hp
 go_enter Tryd.func28,Tryd.ntmps28
 have he:=BP
 have hsl:∀w rs2,St W w (rs2++BF g n c P::rs')→Sl w 2 (.slice (some ⟨g,0,none⟩) n c) n (P.flatMap FY):=fun w rs2 h=>by
  obtain ⟨ss',hp⟩:=AI.mem2 rs2 rs' (BF g n c P)
  exact h.sl hp
 repeat' (first
  | (refine AU 4 ?_);refine AP (.bool false) (V.eqlNilS (ad:=some ⟨g,0,none⟩) (n:=n) (c:=c) Tryd.underlying63 AB rfl rfl) AB ?_;go_step|refine X0 ?_|refine AG ?_;go_step|fail)
 repeat' (first
  | (refine AU 5 ?_);refine A3 ?_;refine E9 (o:=⟨some 5,_,_,_,_,_⟩) hS 63 rfl 62 2 32 Gp ?_;clear hS;intro g5 w hS;refine AC ?_;go_step|(refine AU 7 ?_);refine A3 ?_;refine Ad (o:=⟨some 7,_,_,_,_,_⟩) hS _ _ 63 rfl 62 2 32 Gp _ _ _ _ rfl .head _ rfl n _ (hsl _ [_] hS) (Iy P) (by unfold maxLen;omega) (by omega) ?_;clear hS;intro ad7 c7 w hS;refine AC ?_;go_step|refine X0 ?_|refine AG ?_;go_step|fail)
 go_ret
 rw [Nat.zero_add,List.nil_append] at hS
 obtain ⟨g',rfl⟩:=BO hS .head hn0
 refine ⟨g',c7,?_,hS⟩
 show Ending.returned (.slice (some ⟨g',0,none⟩) (0+n) c7)=_
 rw [Nat.zero_add]
structure Sr where
 ad:Option Addr
 c:Nat
 xs:List Int
def Sr.val(p:Sr):Value:= .slice p.ad p.xs.length p.c
def Sr.res(p:Sr):Ac:=own 3 1 p.ad p.xs.length p.c (p.xs.map (Value.int .i64))
def Em(R:List Sr)(k:Nat):List Int:=(R.take k).flatMap (·.xs)
theorem Fi(R:List Sr)(k:Nat)(r:Sr)(h:R[k]? =some r):Em R (k+1)=Em R k++r.xs:=by
 obtain ⟨hk,e⟩:=List.getElem?_eq_some_iff.1 h
 unfold Em
 rw [List.take_succ_eq_append_getElem hk,List.flatMap_append,e]
 simp
theorem LS(R:List Sr)(k:Nat):(Em R k).length≤(R.flatMap (·.xs)).length:=by
 have:R.flatMap (·.xs)=(R.take k).flatMap (·.xs)++(R.drop k).flatMap (·.xs):=by rw [←List.flatMap_append,List.take_append_drop]
 rw [this,List.length_append]
 unfold Em
 omega
theorem H9(w0:World)(g m mc:Nat)(R:List Sr)(hv:Sl w0 1 (.slice (some ⟨g,0,none⟩) m mc) m (R.map Sr.val))(hr:∀r∈R,Sl w0 1 r.val r.xs.length (r.xs.map (Value.int .i64)))(hm:m≤1000)(hb:(R.flatMap (·.xs)).length≤1000000):
 Calls Tryd.prog 29 #[.slice (some ⟨g,0,none⟩) m mc] w0 fun e w=>∃(ad:Option Addr) (c:Nat),e= .returned (.slice ad (R.flatMap (·.xs)).length c)∧St w0 w [own 3 1 ad (R.flatMap (·.xs)).length c ((R.flatMap (·.xs)).map (Value.int .i64))]:=by
 have hS:=St.start w0
 have hRl:R.length=m:=by have:=hv.1;simpa using this
 have HC:Hid (∀k r,k<m→R[k]? =some r→w0.cell? ⟨g,k,none⟩=some (.slice r.ad r.xs.length r.c)):=fun k r hk h=>by
  obtain ⟨_,a1,c1,e1,_,_,hor⟩:=hv
  cases e1
  rcases hor with h0|⟨b0,o0,e2,hc⟩
  ·omega
  cases e2
  have:=hc k (by omega)
  rw [Nat.zero_add,List.getElem?_map,h] at this
  exact this
 have HR:=AD hr
 have HF:Hid (Em R m=R.flatMap (·.xs)):=by unfold Hid;unfold Em;rw [←hRl,List.take_length]
 have HL:Hid (∀k,(Em R k).length≤1000000):=fun k=>Nat.le_trans (LS R k) hb
 rw [←HF.out]
 clear hv hr hb
 go_enter Tryd.func29,Tryd.ntmps29
 repeat' (first
  | refine X0 ?_|(refine AU 10 ?_);(refine Av AB (V.len Tryd.underlying80 rfl) ?_;go_step)|refine AG ?_;go_step|fail)
 go_loopg [3,11] m (fun gk sv iv w=>∃(k L:Nat),gk+k=m∧L=(Em R k).length∧iv= .int .i64 k∧sv= .int .i64 L∧St w0 w [])
 case atStart=>exact ⟨0,0,by omega,rfl,rfl,rfl,hS⟩
 case round=>
  clear hS
  obtain ⟨k,L,hk,hL,rfl,rfl,hS⟩:=hrel
  have hL0:=HL.out k
  rw [←hL] at hL0
  by_cases hlt:k<m
  ·obtain ⟨r,hr⟩:∃r,R[k]? =some r:=⟨_,List.getElem?_eq_getElem (by omega)⟩
   have hc:=HC.out k r hlt hr
   have hf:=congrArg List.length (Fi R k r hr)
   rw [List.length_append,←hL] at hf
   have hL1:=HL.out (k+1)
   obtain ⟨N,hN⟩:∃N,r.xs.length=N:=⟨_,rfl⟩
   rw [hN] at hf hc
   have HFk:=AD hf
   rw [hf] at hL1
   clear hf hN hr
   repeat' (first
    | refine X0 ?_|refine X2 12 ?_|(refine AU 13 ?_);(refine Av AB (V.indexSl Tryd.underlying80 Lz rfl rfl BL (by omega) (Nat.mul_one _) CD) ?_;go_step)|refine NK ?_|refine AG ?_;go_step|fail)
   repeat' (first
    | (refine AU 18 ?_);(refine AP (.int _ (((L+N:Nat):Int))) (V.as (V.addI rfl rfl (by omega)) (by omega)) (by kernel_rfl) ?_;go_step)|refine X0 ?_|refine JH 17 ?_|refine X2 20 ?_|refine AG ?_;go_step|fail)
   repeat' (first
    | refine N7 22 ?_|refine X1 ?_|refine AG ?_;go_step|fail)
   go_roundg (gk-1)
   case measure=>omega
   case rel=>exact ⟨k+1,L+N,by omega,HFk.out.symm,by go_num,rfl,hS⟩
  obtain rfl:k=m:=by omega
  repeat' (first
   | refine X1 ?_|refine X2 12 ?_|refine AG ?_;go_step|fail)
  repeat' (first
   | (refine Am 40 ?_);refine An AB Tryd.call40 (KR _ L (by omega)) ?_;rintro e w ⟨ad,cc,rfl,hS2⟩;replace hS:=hS.call1 hS2;clear hS2;refine As ?_;go_step|refine X0 ?_|(refine AU 26 ?_);(refine Av AB (V.len Tryd.underlying80 rfl) ?_;go_step)|refine AG ?_;go_step|fail)
  go_loopg [6,27] k (fun gk sv iv w=>∃(j M:Nat) (aa:Option Addr) (ca:Nat),gk+j=k∧M=(Em R j).length∧iv= .int .i64 j∧sv= .slice aa M ca∧St w0 w [own 3 1 aa M ca ((Em R j).map (Value.int .i64))])
  case atStart=>exact ⟨0,0,ad,cc,by omega,rfl,rfl,rfl,hS⟩
  case round=>
   clear hS
   obtain ⟨j,M,aa,ca,hj,hM,rfl,rfl,hS⟩:=hrel
   have hM0:=HL.out j
   rw [←hM] at hM0
   by_cases hlt2:j<k
   ·obtain ⟨r,hr⟩:∃r,R[j]? =some r:=⟨_,List.getElem?_eq_getElem (by omega)⟩
    have hc:=HC.out j r hlt2 hr
    have hsl:Sl w0 1 (.slice r.ad r.xs.length r.c) r.xs.length (r.xs.map (Value.int .i64)):=HR.out r (List.mem_of_getElem? hr)
    have hfe:=Fi R j r hr
    have hf:=congrArg List.length hfe
    rw [List.length_append,←hM] at hf
    have hM1:=HL.out (j+1)
    obtain ⟨N,hN⟩:∃N,r.xs.length=N:=⟨_,rfl⟩
    rw [hN] at hf hc hsl
    have HFk:=AD hf
    have HFE:=AD hfe
    rw [hf] at hM1
    clear hf hN hr hfe
    repeat' (first
     | (refine AU 34 ?_);(refine AP (.int _ (((j+1:Nat):Int))) (V.as (V.addI rfl rfl (by omega)) (by omega)) (by kernel_rfl) ?_;go_step)|refine X0 ?_|refine X2 28 ?_|(refine AU 29 ?_);(refine Av AB (V.indexSl Tryd.underlying80 Lz rfl rfl BL (by omega) (Nat.mul_one _) CD) ?_;go_step)|refine NK ?_|refine NI 33 ?_;clear hS;intro ad33 c33 w hS|refine AG ?_;go_step|fail)
    go_roundg (gk-1)
    case measure=>omega
    case rel=>exact ⟨j+1,M+N,_,_,by omega,HFk.out.symm,by go_num,rfl,by rw [HFE.out];exact hS.sub Ao⟩
   obtain rfl:j=k:=by omega
   repeat' (first
    | refine X0 ?_|refine X2 28 ?_|refine AG ?_;go_step|fail)
   repeat' (first
    | refine AG ?_;go_step|fail)
   go_ret
   rw [←hM]
   exact ⟨aa,ca,rfl,hS⟩
end Go.Proofs.YtkcbhcajfcfmmaaDoor
namespace Go.Proofs.YtkcbhcajfcfmmaaDoor
attribute [local irreducible] Region.wanted
set_option linter.unusedVariables false
set_option maxRecDepth 100000
set_option maxHeartbeats 8000000
abbrev Pk:=Int×List Int
def Bn(l:List Pk):Int:=(l.map (·.1)).sum
def BY(l:List Pk):List Int:=l.flatMap (·.2)
theorem Kz:Bn []=0:=rfl
theorem Au(x:Pk)(l:List Pk):Bn (x::l)=x.1+Bn l:=by simp [Bn]
theorem Hx(a b:List Pk):Bn (a++b)=Bn a+Bn b:=by simp [Bn]
theorem Jz{a b:List Pk}(h:a.Perm b):Bn a=Bn b:=by
 induction h with
 | nil=>rfl
 | cons x _ ih=>simp [Au,ih]
 | swap x y l=>simp only [Au];omega
 | trans _ _ h1 h2=>rw [h1,h2]
theorem CB(x:Pk)(l:List Pk):BY (x::l)=x.2++BY l:=by simp [BY]
theorem BA(a b:List Pk):BY (a++b)=BY a++BY b:=by simp [BY]
theorem CP{a b:List Pk}(h:a.Perm b):(BY a).Perm (BY b):=h.flatMap_right _
def LH(l:List Pk):Prop:=l.Pairwise (fun a b=>a.1≤b.1)
def BU(p:Pk×Pk):Pk:=(p.1.1+p.2.1,p.1.2++p.2.2)
def FI:List Pk→List (Pk×Pk)
 | a::b::l=>(a,b)::FI l
 | _=>[]
def CI(l:List (Pk×Pk)):List Pk:=l.flatMap fun p=>[p.1,p.2]
def CF(l:List Pk):List Pk:=(FI l).map BU
theorem Bm:∀(l:List Pk),∃z,CI (FI l)++z=l∧z.length≤1
 | []=>⟨[],rfl,by simp⟩
 | [a]=>⟨[a],rfl,by simp⟩
 | a::b::l=>by
   obtain ⟨z,h,hz⟩:=Bm l
   exact ⟨z,by simp [FI,CI] at h⊢;exact h,hz⟩
theorem I4(l:List (Pk×Pk)):(CI l).length=2*l.length:=by
 induction l with
 | nil=>rfl
 | cons x l ih=>simp [CI] at ih⊢;omega
theorem Le(l:List Pk):(FI l).length=l.length/2:=by
 obtain ⟨z,h,hz⟩:=Bm l
 have:=congrArg List.length h
 rw [List.length_append,I4] at this
 omega
theorem Cx(l:List Pk):(CF l).length=l.length/2:=by simp [CF,Le]
theorem Jy(l:List (Pk×Pk)):Bn (l.map BU)=Bn (CI l):=by
 induction l with
 | nil=>rfl
 | cons x l ih=>simp only [List.map_cons,Au,ih,BU,CI,List.flatMap_cons,List.cons_append,List.nil_append];simp only [CI] at*;omega
theorem E3(l:List (Pk×Pk)):BY (l.map BU)=BY (CI l):=by
 induction l with
 | nil=>rfl
 | cons x l ih=>simp only [List.map_cons,CB,ih,BU,CI,List.flatMap_cons,List.cons_append,List.nil_append,List.append_assoc]
theorem D5{α β:Type}(f:α→β){L L0:List β}(h:L.Perm L0):∀M:List α,M.map f=L0→∃M':List α,M'.Perm M∧M'.map f=L:=by
 induction h with
 | nil=>intro M e;exact ⟨[],(by cases M with|nil=>exact List.Perm.refl _|cons=>cases e),rfl⟩
 | cons x _ ih=>
   intro M e
   cases M with
   | nil=>cases e
   | cons m M=>
     simp only [List.map_cons,List.cons.injEq] at e
     obtain ⟨M',h1,h2⟩:=ih M e.2
     exact ⟨m::M',h1.cons m,by simp [e.1,h2]⟩
 | swap x y l=>
   intro M e
   match M,e with
   | m1::m2::M,e=>
     simp only [List.map_cons,List.cons.injEq] at e
     exact ⟨m2::m1::M,List.Perm.swap _ _ _,by simp [e.1,e.2.1,e.2.2]⟩
 | trans _ _ h1 h2=>
   intro M e
   obtain ⟨M1,p1,e1⟩:=h2 M e
   obtain ⟨M2,p2,e2⟩:=h1 M1 e1
   exact ⟨M2,p2.trans p1,e2⟩
def Af(X R:List Pk):Prop:=∃Z,(X++Z).Perm R
theorem Af.take(R:List Pk)(m:Nat):Af (R.take m) R:=⟨R.drop m,by rw [List.take_append_drop]⟩
theorem Af.right{X R Q:List Pk}(h:Af X R)(p:R.Perm Q):Af X Q:=by
 obtain ⟨Z,hz⟩:=h;exact ⟨Z,hz.trans p⟩
theorem Af.app{X Y R Q:List Pk}(h:Af X R)(k:Af Y Q):Af (X++Y) (R++Q):=by
 obtain ⟨Z,hz⟩:=h;obtain ⟨U,hu⟩:=k
 refine ⟨Z++U,List.Perm.trans ?_ (hz.append hu)⟩
 rw [List.append_assoc,List.append_assoc]
 refine List.Perm.append_left X ?_
 rw [←List.append_assoc,←List.append_assoc]
 exact List.Perm.append_right U List.perm_append_comm
theorem Af.mem{X R:List Pk}(h:Af X R){x:Pk}(hx:x∈X):x∈R:=by
 obtain ⟨Z,hz⟩:=h;exact hz.mem_iff.1 (List.mem_append_left _ hx)
theorem Af.len{X R:List Pk}(h:Af X R):X.length≤R.length:=by
 obtain ⟨Z,hz⟩:=h;have:=hz.length_eq;rw [List.length_append] at this;omega
theorem Af.unpair{B R:List Pk}(h:Af B (CF R)):∃Y,Af Y R∧Y.length=2*B.length∧BY Y=BY B∧Bn Y=Bn B∧∃B',B'.map BU=B∧Y=CI B':=by
 obtain ⟨Z,hz⟩:=h
 obtain ⟨M,hp,hm⟩:=D5 BU hz (FI R) rfl
 obtain ⟨B',Z',e,hb,hz'⟩:=List.map_eq_append_iff.1 hm
 obtain ⟨z,hu,_⟩:=Bm R
 refine ⟨CI B',⟨CI Z'++z,?_⟩,by rw [I4,←hb,List.length_map],by rw [←hb,E3],by rw [←hb,Jy],B',hb,rfl⟩
 have h1:(CI M).Perm (CI (FI R)):=hp.flatMap_right _
 have h2:CI M=CI B'++CI Z':=by rw [e];simp [CI]
 rw [←List.append_assoc,←h2]
 conv=>rhs;rw [←hu]
 exact h1.append_right z
theorem E6:∀(R:List Pk),LH R→(∀x∈R,0≤x.1)→∀(X:List Pk)(m:Nat),Af X R→m≤X.length→Bn (R.take m)≤Bn X:=by
 have nn:∀X:List Pk,(∀x∈X,0≤x.1)→0≤Bn X:=fun X h=>by
  induction X with
  | nil=>simp [Bn]
  | cons x X ih=>rw [Au];have:=h x (by simp);have:=ih fun y hy=>h y (by simp [hy]);omega
 intro R
 induction R with
 | nil=>
   intro _ _ X m hX _
   have:X=[]:=by have:=hX.len;exact List.eq_nil_of_length_eq_zero (by simpa using this)
   subst this;simp [Bn]
 | cons r R ih=>
   intro hs h0 X m hX hm
   cases m with
   | zero=>simp only [List.take_zero,Kz];exact nn X fun x hx=>h0 x (hX.mem hx)
   | succ m=>
     obtain ⟨hr,hs'⟩:=List.pairwise_cons.1 hs
     rw [List.take_succ_cons,Au]
     obtain ⟨Z,hz⟩:=hX
     have hrm:r∈X++Z:=hz.mem_iff.2 (by simp)
     rcases List.mem_append.1 hrm with hx|hx
     ·have p:=List.perm_cons_erase hx
      have hz2:(X.erase r++Z).Perm R:=by
       have:(r::(X.erase r++Z)).Perm (r::R):=(p.symm.append_right Z).trans hz
       exact this.cons_inv
      have hl:=p.length_eq
      rw [List.length_cons] at hl
      have:=ih hs' (fun x hx=>h0 x (by simp [hx])) (X.erase r) m ⟨Z,hz2⟩ (by omega)
      rw [Jz p,Au];omega
     cases X with
     | nil=>simp at hm
     | cons x X=>
       have p:=List.perm_cons_erase hx
       have hz2:(X++(x::Z.erase r)).Perm R:=by
        have h1:(r::(X++(x::Z.erase r))).Perm (r::R):=by
         refine List.Perm.trans ?_ hz
         have a1:(X++x::Z.erase r).Perm (x::(X++Z.erase r)):=List.perm_middle
         have a2:(r::(X++x::Z.erase r)).Perm (r::x::(X++Z.erase r)):=a1.cons r
         refine a2.trans ((List.Perm.swap x r _).trans ?_)
         refine List.Perm.cons x ?_
         have a3:(r::(X++Z.erase r)).Perm (X++r::Z.erase r):=List.perm_middle.symm
         exact a3.trans (List.Perm.append_left X p.symm)
        exact h1.cons_inv
       have hxr:r.1≤x.1:=by
        have:x∈r::R:=hz.mem_iff.1 (by simp)
        rcases List.mem_cons.1 this with e|e
        ·rw [e];exact Int.le_refl _
        exact hr x e
       have:=ih hs' (fun x hx=>h0 x (by simp [hx])) X m ⟨_,hz2⟩ (by simp at hm;omega)
       rw [Au];omega
inductive BK(S:List Pk):Nat→List Pk→Prop
 | one (R:List Pk) (p:R.Perm S) (s:LH R):BK S 1 R
 | more {k:Nat} {R Q:List Pk} (h:BK S k R) (p:Q.Perm (CF R++S)) (s:LH Q):BK S (k+1) Q
theorem BK.srt{S R:List Pk}{k:Nat}(h:BK S k R):LH R:=by cases h<;>assumption
theorem BK.nonneg{S R:List Pk}{k:Nat}(h0:∀x∈S,0≤x.1)(h:BK S k R):∀x∈R,0≤x.1:=by
 induction h with
 | one R p _=>exact fun x hx=>h0 x (p.mem_iff.1 hx)
 | @more k R Q h p _ ih=>
   intro x hx
   rcases List.mem_append.1 (p.mem_iff.1 hx) with hx|hx
   ·obtain ⟨q,hq,rfl⟩:=List.mem_map.1 hx
    obtain ⟨z,hu,_⟩:=Bm R
    have hm:∀y∈CI (FI R),y∈R:=fun y hy=>by rw [←hu];exact List.mem_append_left _ hy
    have h1:=ih q.1 (hm _ (by simp only [CI,List.mem_flatMap];exact ⟨q,hq,by simp⟩))
    have h2:=ih q.2 (hm _ (by simp only [CI,List.mem_flatMap];exact ⟨q,hq,by simp⟩))
    simp only [BU];omega
   exact h0 x hx
theorem BK.len{S R:List Pk}{k:Nat}(h:BK S k R):R.length≤2*S.length:=by
 induction h with
 | one R p _=>have:=p.length_eq;omega
 | more h p _ ih=>have:=p.length_eq;rw [List.length_append,Cx] at this;omega
theorem BK.long{S R:List Pk}{k:Nat}(h:BK S k R)(_h1:1≤S.length):2*S.length≤R.length+1+S.length/2^(k-1):=by
 induction h with
 | one R p _=>have:=p.length_eq;simp;omega
 | @more k R Q h p _ ih=>
   have:=p.length_eq;rw [List.length_append,Cx] at this
   have hk:1≤k:=by cases h<;>omega
   have e:S.length/2^(k+1-1)=S.length/2^(k-1)/2:=by
    rw [Nat.div_div_eq_div_mul,←Nat.pow_succ,show (k-1).succ=k+1-1 by omega]
   rw [e];omega
def AT{α:Type}(f:α→Nat)(l:List α):Nat:=(l.map f).sum
theorem AV{α:Type}(f:α→Nat)(x:α)(l:List α):AT f (x::l)=f x+AT f l:=by simp [AT]
theorem De{α:Type}(f g:α→Nat)(l:List α):AT (fun x=>f x+g x) l=AT f l+AT g l:=by
 induction l with
 | nil=>rfl
 | cons x l ih=>simp only [AV,ih];omega
theorem LV{α:Type}(f g:α→Nat)(l:List α)(h:∀x∈l,f x≤g x):AT f l≤AT g l:=by
 induction l with
 | nil=>exact Nat.le_refl _
 | cons x l ih=>have:=h x (by simp);have:=ih fun y hy=>h y (by simp [hy]);simp only [AV];omega
theorem BI{α:Type}(f g:α→Nat)(l:List α)(h:∀x∈l,f x=g x):AT f l=AT g l:=by
 induction l with
 | nil=>rfl
 | cons x l ih=>have:=h x (by simp);have:=ih fun y hy=>h y (by simp [hy]);simp only [AV];omega
theorem Dg{α:Type}(f:α→Nat)(c:Nat)(l:List α):AT (fun x=>f x*c) l=AT f l*c:=by
 induction l with
 | nil=>simp [AT]
 | cons x l ih=>simp only [AV,ih,Nat.add_mul]
theorem Ke{α:Type}(p:α→Bool)(l:List α):AT (fun x=>if p x then 1 else 0) l=(l.filter p).length:=by
 induction l with
 | nil=>rfl
 | cons x l ih=>rw [AV,ih,List.filter_cons];by_cases h:p x=true<;>simp [h];omega
theorem Fl{α:Type}(f:α→Nat)(l:List α)(h:∀x∈l,f x=0):AT f l=0:=by
 induction l with
 | nil=>rfl
 | cons x l ih=>have:=h x (by simp);have:=ih fun y hy=>h y (by simp [hy]);simp only [AV];omega
def By(X:List Pk)(s:Int):Nat:=(BY X).count s
structure D0(S:List Pk)(ss:List Int):Prop where
 syms:S.map (·.2)=ss.map fun s=>[s]
 nd:ss.Nodup
theorem D0.len{S:List Pk}{ss:List Int}(h:D0 S ss):S.length=ss.length:=by
 have:=congrArg List.length h.syms;simpa using this
theorem D0.one{S:List Pk}{ss:List Int}(h:D0 S ss):∀x∈S,∃s∈ss,x.2=[s]:=fun x hx=>by
 have:x.2∈S.map (·.2):=List.mem_map.2 ⟨x,hx,rfl⟩
 rw [h.syms] at this
 obtain ⟨s,hs,e⟩:=List.mem_map.1 this
 exact ⟨s,hs,e.symm⟩
theorem D0.syls{S:List Pk}{ss:List Int}(h:D0 S ss):BY S=ss:=by
 have:BY S=(S.map (·.2)).flatten:=by simp [BY,List.flatMap]
 rw [this,h.syms]
 clear h this
 induction ss with
 | nil=>rfl
 | cons a l ih=>rw [List.map_cons,List.flatten_cons,ih];rfl
theorem BK.pos{S R:List Pk}{k:Nat}{ss:List Int}(hS:D0 S ss)(h:BK S k R):∀x∈R,1≤x.2.length:=by
 induction h with
 | one R p _=>intro x hx;obtain ⟨s,_,e⟩:=hS.one x (p.mem_iff.1 hx);rw [e];simp
 | @more k R Q h p _ ih=>
   intro x hx
   rcases List.mem_append.1 (p.mem_iff.1 hx) with hx|hx
   ·obtain ⟨q,hq,rfl⟩:=List.mem_map.1 hx
    obtain ⟨z,hu,_⟩:=Bm R
    have h1:=ih q.1 (by rw [←hu];exact List.mem_append_left _ (by simp only [CI,List.mem_flatMap];exact ⟨q,hq,by simp⟩))
    simp only [BU,List.length_append];omega
   obtain ⟨s,_,e⟩:=hS.one x hx;rw [e];simp
theorem Af.parts{S R Q X:List Pk}{k:Nat}{ss:List Int}(hS:D0 S ss)(h:BK S k R)(p:Q.Perm (CF R++S))(hX:Af X Q):
 ∃B A,Af B (CF R)∧Af A S∧X.Perm (B++A):=by
 obtain ⟨Z,hz⟩:=hX
 have hz:=hz.trans p
 have hpos:=h.pos hS
 have h1:∀x∈CF R,decide (2≤x.2.length)=true:=fun x hx=>by
  obtain ⟨q,hq,rfl⟩:=List.mem_map.1 hx
  obtain ⟨z,hu,_⟩:=Bm R
  have e1:=hpos q.1 (by rw [←hu];exact List.mem_append_left _ (by simp only [CI,List.mem_flatMap];exact ⟨q,hq,by simp⟩))
  have e2:=hpos q.2 (by rw [←hu];exact List.mem_append_left _ (by simp only [CI,List.mem_flatMap];exact ⟨q,hq,by simp⟩))
  simp only [BU,List.length_append,decide_eq_true_eq];omega
 have h2:∀x∈S,decide (2≤x.2.length)=false:=fun x hx=>by obtain ⟨s,_,e⟩:=hS.one x hx;rw [e];simp
 have f1:=hz.filter (fun x=>decide (2≤x.2.length))
 have f2:=hz.filter (fun x=>!decide (2≤x.2.length))
 rw [List.filter_append,List.filter_append,List.filter_eq_self.2 h1,(List.filter_eq_nil_iff (l:=S)).2 (fun x hx=>by rw [h2 x hx];simp),List.append_nil] at f1
 rw [List.filter_append,List.filter_append,(List.filter_eq_nil_iff (l:=CF R)).2 (fun x hx=>by rw [h1 x hx];simp),(List.filter_eq_self (l:=S)).2 (fun x hx=>by rw [h2 x hx];rfl),List.nil_append] at f2
 exact ⟨_,_,⟨_,f1⟩,⟨_,f2⟩,(List.filter_append_perm _ X).symm⟩
theorem Is(X Y:List Pk)(s:Int):By (X++Y) s=By X s+By Y s:=by simp [By,BA]
theorem G4{X Y:List Pk}(h:X.Perm Y)(s:Int):By X s=By Y s:=(CP h).count_eq s
theorem Af.single{A S:List Pk}{ss:List Int}(hS:D0 S ss)(h:Af A S):(BY A).Nodup∧(BY A).length=A.length∧∀s∈BY A,s∈ss:=by
 obtain ⟨Z,hz⟩:=h
 have hp:(BY A++BY Z).Perm ss:=by rw [←BA,←hS.syls];exact CP hz
 refine ⟨(List.nodup_append.1 (hp.nodup_iff.2 hS.nd)).1,?_,fun s hs=>hp.mem_iff.1 (List.mem_append_left _ hs)⟩
 have:∀x∈A,x.2.length=1:=fun x hx=>by
  obtain ⟨s,_,e⟩:=hS.one x (hz.mem_iff.1 (List.mem_append_left _ hx));rw [e];rfl
 clear hp hz
 induction A with
 | nil=>rfl
 | cons x A ih=>rw [CB,List.length_append,this x (by simp),ih fun y hy=>this y (by simp [hy]),List.length_cons];omega
theorem GZ(k:Nat)(h:1≤k):2^k=2*2^(k-1):=by
 cases k with
 | zero=>omega
 | succ k=>rw [Nat.pow_succ,Nat.add_sub_cancel];omega
theorem BK.kraft{S R:List Pk}{k:Nat}{ss:List Int}(hS:D0 S ss)(h:BK S k R):∀X,Af X R→
 (∀s,By X s≤k)∧X.length*2^(k-1)≤AT (fun s=>2^k-2^(k-By X s)) ss∧(∀s∈BY X,s∈ss):=by
 have sums:∀(L:List Int),L.Nodup→(∀s∈L,s∈ss)→AT (fun s=>L.count s) ss=L.length:=by
  intro L
  induction L with
  | nil=>intro _ _;exact Fl _ _ fun s _=>rfl
  | cons x L ih=>
    intro hn hm
    obtain ⟨h1,h2⟩:=List.nodup_cons.1 hn
    have:=ih h2 fun s hs=>hm s (by simp [hs])
    have e:AT (fun s=>(x::L).count s) ss=AT (fun s=>L.count s) ss+AT (fun s=>if s=x then 1 else 0) ss:=by
     rw [←De]
     refine BI _ _ _ fun s _=>?_
     rw [List.count_cons];by_cases h:s=x
     ·subst h;simp
     have:(x==s)=false:=by simp;exact fun e=>h e.symm
     simp [h,this]
    have e2:AT (fun s=>if s=x then 1 else 0) ss=1:=by
     have hx:=hm x (by simp)
     have e3:AT (fun s=>if s=x then 1 else 0) ss=ss.count x:=by
      clear e this ih h1 h2 hn hm hx h hS
      induction ss with
      | nil=>rfl
      | cons a l ih=>rw [AV,ih,List.count_cons];by_cases h:a=x<;>simp [h];omega
     rw [e3]
     have a1:=List.nodup_iff_count.1 hS.nd x
     have a2:=List.count_pos_iff.2 hx
     omega
    rw [e,e2,this,List.length_cons]
 induction h with
 | one R p _=>
   intro X hX
   obtain ⟨h1,h2,h3⟩:=(hX.right p).single hS
   have hle:∀s,By X s≤1:=fun s=>List.nodup_iff_count.1 h1 s
   refine ⟨hle,?_,h3⟩
   have:=sums _ h1 h3
   have e:AT (fun s=>2^1-2^(1-By X s)) ss=AT (fun s=>(BY X).count s) ss:=BI _ _ _ fun s _=>by
    have:=hle s
    have e:By X s=(BY X).count s:=rfl
    rcases Nat.lt_or_ge (By X s) 1 with h|h
    ·rw [←e,show By X s=0 by omega]
    rw [←e,show By X s=1 by omega]
   rw [e,this,h2];simp
 | @more k R Q h p _ ih=>
   intro X hX
   obtain ⟨B,A,hB,hA,hp⟩:=Af.parts hS h p hX
   obtain ⟨Y,hY,hYl,hYs,_,_⟩:=hB.unpair
   obtain ⟨i1,i2,i3⟩:=ih Y hY
   obtain ⟨a1,a2,a3⟩:=hA.single hS
   have hk:1≤k:=by cases h<;>omega
   have hlx:∀s,By X s=By Y s+(BY A).count s:=fun s=>by rw [G4 hp,Is];simp only [By,hYs]
   have ha:∀s,(BY A).count s≤1:=fun s=>List.nodup_iff_count.1 a1 s
   refine ⟨fun s=>by rw [hlx];have:=i1 s;have:=ha s;omega,?_,fun s hs=>?_⟩
   ·have hs:=sums _ a1 a3
    rw [a2] at hs
    have key:AT (fun s=>(BY A).count s*2^k+(2^k-2^(k-By Y s))) ss≤AT (fun s=>2^(k+1)-2^(k+1-By X s)) ss:=by
     refine LV _ _ _ fun s _=>?_
     rw [hlx]
     have h1:=i1 s
     have h2:=ha s
     have e1:2^(k+1)=2*2^k:=by rw [Nat.pow_succ];omega
     have e3:2^(k-By Y s)≤2^k:=Nat.pow_le_pow_right (by omega) (by omega)
     rcases Nat.lt_or_ge ((BY A).count s) 1 with h|h
     ·rw [show (BY A).count s=0 by omega,Nat.zero_mul,Nat.zero_add,Nat.add_zero (By Y s),e1]
      have e2:2^(k+1-By Y s)=2*2^(k-By Y s):=by rw [show k+1-By Y s=(k-By Y s)+1 by omega,Nat.pow_succ];omega
      rw [e2];omega
     rw [show (BY A).count s=1 by omega,Nat.one_mul,e1,show k+1-(By Y s+1)=k-By Y s by omega]
     omega
    rw [De,Dg,hs] at key
    have hl:=hp.length_eq
    rw [List.length_append] at hl
    have e4:=GZ k hk
    rw [hl,Nat.add_sub_cancel,Nat.add_mul]
    rw [hYl] at i2
    have e5:B.length*2^k=2*B.length*2^(k-1):=by rw [e4,←Nat.mul_assoc];congr 1;omega
    omega
   have:=(CP hp).mem_iff.1 hs
   rw [BA,List.mem_append] at this
   rcases this with h|h
   ·exact i3 s (hYs▸ h)
   exact a3 s h
def isum{α:Type}(f:α→Int)(l:List α):Int:=(l.map f).sum
theorem A8{α:Type}(f:α→Int)(x:α)(l:List α):isum f (x::l)=f x+isum f l:=by simp [isum]
theorem KU{α:Type}(f g:α→Int)(l:List α):isum (fun x=>f x+g x) l=isum f l+isum g l:=by
 induction l with
 | nil=>rfl
 | cons x l ih=>simp only [A8,ih];omega
theorem Bw{α:Type}(f g:α→Int)(l:List α)(h:∀x∈l,f x=g x):isum f l=isum g l:=by
 induction l with
 | nil=>rfl
 | cons x l ih=>have:=h x (by simp);have:=ih fun y hy=>h y (by simp [hy]);simp only [A8];omega
theorem D2{α:Type}(f:α→Int)(l:List α)(h:∀x∈l,f x=0):isum f l=0:=by
 induction l with
 | nil=>rfl
 | cons x l ih=>have:=h x (by simp);have:=ih fun y hy=>h y (by simp [hy]);simp only [A8];omega
theorem Ja{α:Type}(f:α→Nat){l m:List α}(h:l.Perm m):AT f l=AT f m:=by
 induction h with
 | nil=>rfl
 | cons x _ ih=>simp [AV,ih]
 | swap x y l=>simp only [AV];omega
 | trans _ _ h1 h2=>rw [h1,h2]
theorem EH{α:Type}(f:α→Int)(l m:List α):isum f (l++m)=isum f l+isum f m:=by simp [isum]
theorem Ck{α:Type}(f:α→Nat)(l m:List α):AT f (l++m)=AT f l+AT f m:=by simp [AT]
theorem BK.weigh{S R:List Pk}{k:Nat}(w:Int→Int)(hw:∀x∈S,x.1=isum w x.2)(h:BK S k R):∀x∈R,x.1=isum w x.2:=by
 induction h with
 | one R p _=>exact fun x hx=>hw x (p.mem_iff.1 hx)
 | @more k R Q h p _ ih=>
   intro x hx
   rcases List.mem_append.1 (p.mem_iff.1 hx) with hx|hx
   ·obtain ⟨q,hq,rfl⟩:=List.mem_map.1 hx
    obtain ⟨z,hu,_⟩:=Bm R
    have h1:=ih q.1 (by rw [←hu];exact List.mem_append_left _ (by simp only [CI,List.mem_flatMap];exact ⟨q,hq,by simp⟩))
    have h2:=ih q.2 (by rw [←hu];exact List.mem_append_left _ (by simp only [CI,List.mem_flatMap];exact ⟨q,hq,by simp⟩))
    simp only [BU,EH];omega
   exact hw x hx
theorem Hy(w:Int→Int):∀(X:List Pk),(∀x∈X,x.1=isum w x.2)→Bn X=isum w (BY X)
 | [],_=>rfl
 | x::X,h=>by rw [Au,CB,EH,h x (by simp),Hy w X fun y hy=>h y (by simp [hy])]
theorem Eo(w:Int→Int)(ss:List Int)(hn:ss.Nodup):∀(L:List Int),(∀s∈L,s∈ss)→isum w L=isum (fun s=>w s*(L.count s:Nat)) ss
 | [],_=>(D2 _ _ fun s _=>by simp).symm
 | x::L,h=>by
   rw [A8,Eo w ss hn L fun s hs=>h s (by simp [hs])]
   have e:isum (fun s=>w s*((x::L).count s:Nat)) ss=isum (fun s=>w s*(L.count s:Nat)) ss+isum (fun s=>if s=x then w s else 0) ss:=by
    rw [←KU]
    refine Bw _ _ _ fun s _=>?_
    rw [List.count_cons];by_cases h:s=x
    ·subst h;simp [Int.mul_add]
    have:(x==s)=false:=by simp;exact fun e=>h e.symm
    simp [h,this]
   have hx:=h x (by simp)
   have e2:isum (fun s=>if s=x then w s else 0) ss=w x:=by
    clear e h
    induction ss with
    | nil=>cases hx
    | cons a l ih=>
      obtain ⟨h1,h2⟩:=List.nodup_cons.1 hn
      rw [A8]
      by_cases ha:a=x
      ·subst ha
       rw [if_pos rfl,D2 _ l fun s hs=>by rw [if_neg];intro e;exact h1 (e▸ hs)];omega
      rw [if_neg ha,ih h2 ((List.mem_cons.1 hx).resolve_left (fun e=>ha e.symm))];omega
   rw [e,e2];omega
def fN(K l:Nat):Nat→Nat
 | 0=>0
 | k+1=>fN K l k+(if K≤l+k then 2^k else 0)
def fC(K l:Nat):Nat→Nat
 | 0=>0
 | k+1=>fC K l k+(if K≤l+k then 1 else 0)
theorem Nb(l:Nat)(h:l≤16):fN 16 l 16+2^(16-l)=2^16:=by
 have:∀l,l<17→fN 16 l 16+2^(16-l)=2^16:=by decide
 exact this l (by omega)
theorem Na(l:Nat)(h:l≤16):fC 16 l 16=l:=by
 have:∀l,l<17→fC 16 l 16=l:=by decide
 exact this l (by omega)
theorem Er:∀(R:List Pk)(t:Nat),2*t≤R.length→Bn ((CF R).take t)=Bn (R.take (2*t))
 | _,0,_=>by simp
 | a::b::l,t+1,h=>by
   have ih:=Er l t (by simp at h;omega)
   rw [show 2*(t+1)=2*t+1+1 by omega,List.take_succ_cons,List.take_succ_cons,Au,Au,←ih]
   simp only [CF,FI,List.map_cons,List.take_succ_cons,Au,BU];omega
 | [a],t+1,h=>by simp at h;omega
 | [],t+1,h=>by simp at h
theorem BK.lower{S R:List Pk}{k:Nat}(K:Nat)(len:Pk→Nat)(h0:∀x∈S,0≤x.1)(h:BK S k R):
 ∃X,Af X R∧X.length=AT (fun x=>fN K (len x) k) S/2^(k-1)∧Bn X≤isum (fun x=>x.1*(fC K (len x) k:Nat)) S:=by
 have sel:∀k,AT (fun x=>fN K (len x) (k+1)) S=AT (fun x=>fN K (len x) k) S+(S.filter fun x=>decide (K≤len x+k)).length*2^k∧
  isum (fun x=>x.1*(fC K (len x) (k+1):Nat)) S=isum (fun x=>x.1*(fC K (len x) k:Nat)) S+Bn (S.filter fun x=>decide (K≤len x+k)):=fun k=>by
  clear h h0
  induction S with
  | nil=>exact ⟨by simp [AT],by simp [isum,Bn]⟩
  | cons x S ih=>
    simp only [AV,A8,List.filter_cons]
    rw [ih.1,ih.2]
    by_cases hx:K≤len x+k
    ·simp only [fN,fC,hx,if_true,decide_true,List.length_cons,Au,Nat.add_mul,Nat.one_mul]
     refine ⟨by omega,?_⟩
     push_cast;rw [Int.mul_add];omega
    simp only [fN,fC,hx,if_false,decide_false,Bool.false_eq_true]
    exact ⟨by omega,by simp;omega⟩
 have filt:∀k,Af (S.filter fun x=>decide (K≤len x+k)) S:=fun k=>⟨_,List.filter_append_perm _ S⟩
 induction h with
 | one R p _=>
   refine ⟨_,(filt 0).right p.symm,?_,?_⟩
   ·rw [(sel 0).1,Fl (fun x=>fN K (len x) 0) S fun _ _=>rfl];simp
   rw [(sel 0).2,D2 (fun x=>x.1*(fC K (len x) 0:Nat)) S fun _ _=>by simp [fC]];omega
 | @more k R Q h p _ ih=>
   obtain ⟨X,hX,hl,hw⟩:=ih
   have hk:1≤k:=by cases h<;>omega
   have ht:=hX.len
   refine ⟨_,((Af.take (CF R) (X.length/2)).app (filt k)).right p.symm,?_,?_⟩
   ·rw [(sel k).1,List.length_append,List.length_take,Cx,Nat.min_eq_left (by omega),Nat.add_sub_cancel,Nat.add_mul_div_right _ _ (Nat.two_pow_pos k),hl,Nat.div_div_eq_div_mul,←Nat.pow_succ,show (k-1).succ=k by omega]
   rw [(sel k).2,Hx,Er R _ (by omega)]
   have:=E6 R h.srt (h.nonneg h0) X (2*(X.length/2)) hX (by omega)
   omega
theorem Dj{R:List Pk}{q:Pk×Pk}(h:q∈FI R):q.1∈R∧q.2∈R:=by
 obtain ⟨z,hu,_⟩:=Bm R
 exact ⟨by rw [←hu];exact List.mem_append_left _ (by simp only [CI,List.mem_flatMap];exact ⟨q,h,by simp⟩),by rw [←hu];exact List.mem_append_left _ (by simp only [CI,List.mem_flatMap];exact ⟨q,h,by simp⟩)⟩
theorem I1:∀(R:List Pk),LH R→(FI R).Pairwise (fun q p=>q.2.1≤p.1.1)∧∀q∈FI R,q.1.1≤q.2.1
 | [],_=>⟨List.Pairwise.nil,fun q h=>by cases h⟩
 | [a],_=>⟨List.Pairwise.nil,fun q h=>by cases h⟩
 | a::b::l,h=>by
   obtain ⟨h1,h2⟩:=List.pairwise_cons.1 h
   obtain ⟨h3,h4⟩:=List.pairwise_cons.1 h2
   obtain ⟨i1,i2⟩:=I1 l h4
   refine ⟨List.pairwise_cons.2 ⟨fun q hq=>h3 _ (Dj hq).1,i1⟩,fun q hq=>?_⟩
   rcases List.mem_cons.1 hq with rfl|hq
   ·exact h1 _ (by simp)
   exact i2 q hq
def NB(C Z R:List Pk):Prop:=(C++Z).Perm R∧∀p∈C,∀q∈Z,p.1≤q.1
theorem NB.take{R:List Pk}(h:LH R)(m:Nat):NB (R.take m) (R.drop m) R:=
 ⟨by rw [List.take_append_drop],fun p hp q hq=>by
  have:(R.take m++R.drop m).Pairwise (fun a b=>a.1≤b.1):=by rw [List.take_append_drop];exact h
  exact (List.pairwise_append.1 this).2.2 p hp q hq⟩
theorem Km:∀(R:List Pk),LH R→∀z,CI (FI R)++z=R→∀y∈z,∀x∈CI (FI R),x.1≤y.1:=fun R h z e y hy x hx=>by
 have:(CI (FI R)++z).Pairwise (fun a b=>a.1≤b.1):=by rw [e];exact h
 exact (List.pairwise_append.1 this).2.2 x hx y hy
theorem BK.order{S R:List Pk}{k:Nat}{ss:List Int}(hS:D0 S ss)(w:Int→Int)(hw:∀x∈S,x.1=isum w x.2)(h:BK S k R){a b:Int}(hb:b∈ss)(hab:w b<w a):
 ∀C Z,NB C Z R→By C a≤By C b:=by
 have single:∀C Z,(C++Z).Perm S→(∀p∈C,∀q∈Z,p.1≤q.1)→(BY C).count a≤(BY C).count b:=by
  intro C Z hp hl
  have hsp:(BY C++BY Z).Perm ss:=by rw [←BA,←hS.syls];exact CP hp
  have hn:=hsp.nodup_iff.2 hS.nd
  have h1:(BY C).count a≤1:=List.nodup_iff_count.1 (List.nodup_append.1 hn).1 a
  by_cases ha:a∈BY C
  ·have hbm:=hsp.mem_iff.2 hb
   rcases List.mem_append.1 hbm with hbC|hbZ
   ·have:=List.count_pos_iff.2 hbC;omega
   exfalso
   obtain ⟨x,hx,hax⟩:=List.mem_flatMap.1 ha
   obtain ⟨y,hy,hby⟩:=List.mem_flatMap.1 hbZ
   have hxS:=hp.mem_iff.1 (List.mem_append_left _ hx)
   have hyS:=hp.mem_iff.1 (List.mem_append_right _ hy)
   obtain ⟨s,_,es⟩:=hS.one x hxS
   obtain ⟨t,_,et⟩:=hS.one y hyS
   rw [es] at hax;rw [et] at hby
   simp at hax hby
   subst hax;subst hby
   have w1:=hw x hxS
   have w2:=hw y hyS
   rw [es] at w1;rw [et] at w2
   simp [isum] at w1 w2
   have:=hl x hx y hy
   omega
  rw [List.count_eq_zero.2 ha];omega
 induction h with
 | one R p _=>exact fun C Z hL=>single C Z (hL.1.trans p) hL.2
 | @more k R Q h p _ ih=>
   intro C Z hL
   obtain ⟨hp,hl⟩:=hL
   have hz:=hp.trans p
   have hpos:=h.pos hS
   have h1:∀x∈CF R,decide (2≤x.2.length)=true:=fun x hx=>by
    obtain ⟨q,hq,rfl⟩:=List.mem_map.1 hx
    have e1:=hpos q.1 (Dj hq).1
    have e2:=hpos q.2 (Dj hq).2
    simp only [BU,List.length_append,decide_eq_true_eq];omega
   have h2:∀x∈S,decide (2≤x.2.length)=false:=fun x hx=>by obtain ⟨s,_,e⟩:=hS.one x hx;rw [e];simp
   have f1:=hz.filter (fun x=>decide (2≤x.2.length))
   have f2:=hz.filter (fun x=>!decide (2≤x.2.length))
   rw [List.filter_append,List.filter_append,List.filter_eq_self.2 h1,(List.filter_eq_nil_iff (l:=S)).2 (fun x hx=>by rw [h2 x hx];simp),List.append_nil] at f1
   rw [List.filter_append,List.filter_append,(List.filter_eq_nil_iff (l:=CF R)).2 (fun x hx=>by rw [h1 x hx];simp),(List.filter_eq_self (l:=S)).2 (fun x hx=>by rw [h2 x hx];rfl),List.nil_append] at f2
   have hC:=(List.filter_append_perm (fun x:Pk=>decide (2≤x.2.length)) C).symm
   obtain ⟨M,hM,hm⟩:=D5 BU f1 (FI R) rfl
   obtain ⟨B,B',e,hb1,hb2⟩:=List.map_eq_append_iff.1 hm
   obtain ⟨z,hu,_⟩:=Bm R
   obtain ⟨s1,s2⟩:=I1 R h.srt
   have hpw:(B++B').Pairwise (fun q p=>q.2.1≤p.1.1∨p.2.1≤q.1.1):=by
    rw [←e]
    exact (List.Perm.pairwise_iff (R:=fun (q p:Pk×Pk)=>q.2.1≤p.1.1∨p.2.1≤q.1.1) (fun hh=>hh.symm) hM).2 (s1.imp Or.inl)
   have hcross:=(List.pairwise_append.1 hpw).2.2
   have hmem:∀q,q∈B++B'→q∈FI R:=fun q hq=>hM.mem_iff.1 (e▸ hq)
   have hlow:NB (CI B) (CI B'++z) R:=by
    refine ⟨?_,?_⟩
    ·rw [←List.append_assoc]
     have h3:(CI M).Perm (CI (FI R)):=hM.flatMap_right _
     have h4:CI M=CI B++CI B':=by rw [e];simp [CI]
     rw [←h4]
     conv=>rhs;rw [←hu]
     exact h3.append_right z
    intro y hy y' hy'
    simp only [CI,List.mem_flatMap] at hy
    obtain ⟨q,hq,hyq⟩:=hy
    have hqR:=hmem q (List.mem_append_left _ hq)
    rcases List.mem_append.1 hy' with hy'|hy'
    ·simp only [CI,List.mem_flatMap] at hy'
     obtain ⟨q',hq',hyq'⟩:=hy'
     have hqR':=hmem q' (List.mem_append_right _ hq')
     have c1:=s2 q hqR
     have c2:=s2 q' hqR'
     have c3:=hcross q hq q' hq'
     have c4:(BU q).1≤(BU q').1:=by
      refine hl _ ?_ _ ?_
      ·exact (List.mem_filter.1 (hb1▸ List.mem_map.2 ⟨q,hq,rfl⟩)).1
      exact (List.mem_filter.1 (hb2▸ List.mem_map.2 ⟨q',hq',rfl⟩)).1
     simp only [BU] at c4
     simp at hyq hyq'
     rcases hyq with rfl|rfl<;>rcases hyq' with rfl|rfl<;>rcases c3 with c3|c3<;>omega
    exact Km R h.srt z hu y' hy' y (by simp only [CI,List.mem_flatMap];exact ⟨q,hqR,hyq⟩)
   have i1:=ih _ _ hlow
   have e1:∀s,By C s=By (CI B) s+(BY (C.filter fun x=>!decide (2≤x.2.length))).count s:=fun s=>by
    rw [G4 hC,Is];simp only [By];rw [←hb1,E3]
   rw [e1,e1]
   have:=single _ _ f2 fun p hp q hq=>hl p (List.mem_filter.1 hp).1 q (List.mem_filter.1 hq).1
   omega
theorem DP{α:Type}(l:List α):AT (fun _=>1) l=l.length:=by
 induction l with
 | nil=>rfl
 | cons a l ih=>rw [AV,ih,List.length_cons];omega
theorem JI{S R:List Pk}{ss:List Int}(hS:D0 S ss)(w:Int→Int)(hw:∀x∈S,x.1=isum w x.2)(h0:∀s∈ss,0≤w s)(h1:1≤ss.length)(h2:ss.length<32768)(hR:BK S 16 R):
 2*ss.length-2≤R.length∧
 (∀s,By (R.take (2*ss.length-2)) s≤16)∧(∀s,s∉ss→By (R.take (2*ss.length-2)) s=0)∧
 AT (fun s=>2^(16-By (R.take (2*ss.length-2)) s)) ss≤2^16∧
 (∀len:Int→Nat,(∀s∈ss,len s≤16)→AT (fun s=>2^(16-len s)) ss≤2^16→isum (fun s=>w s*(By (R.take (2*ss.length-2)) s:Nat)) ss≤isum (fun s=>w s*(len s:Nat)) ss)∧
 (∀a b,b∈ss→w b<w a→By (R.take (2*ss.length-2)) a≤By (R.take (2*ss.length-2)) b):=by
 have hSl:=hS.len
 have hlong:=hR.long (by omega)
 have hd:S.length/2^(16-1)=0:=Nat.div_eq_of_lt (by omega)
 rw [hd] at hlong
 have hlen:2*ss.length-2≤R.length:=by omega
 obtain ⟨k1,k2,k3⟩:=hR.kraft hS _ (Af.take R (2*ss.length-2))
 have h0S:∀x∈S,0≤x.1:=fun x hx=>by
  obtain ⟨s,hs,e⟩:=hS.one x hx
  have:=hw x hx;rw [e] at this;simp [isum] at this
  have:=h0 s hs;omega
 refine ⟨hlen,k1,fun s hs=>List.count_eq_zero.2 fun hm=>hs (k3 s hm),?_,?_,fun a b hb hab=>hR.order hS w hw hb hab _ _ (NB.take hR.srt _)⟩
 ·rw [List.length_take,Nat.min_eq_left hlen] at k2
  have e:AT (fun s=>2^16-2^(16-By (R.take (2*ss.length-2)) s)) ss+AT (fun s=>2^(16-By (R.take (2*ss.length-2)) s)) ss=ss.length*2^16:=by
   rw [←De,BI _ (fun _=>1*2^16) ss fun s _=>?_,Dg,DP]
   ·have:2^(16-By (R.take (2*ss.length-2)) s)≤2^16:=Nat.pow_le_pow_right (by omega) (by omega)
    omega
  omega
 intro len hl hk
 obtain ⟨X,hX,hXl,hXw⟩:=hR.lower 16 (fun x=>len (x.2.headD 0)) h0S
 have conv1:AT (fun x:Pk=>fN 16 (len (x.2.headD 0)) 16) S=AT (fun s=>fN 16 (len s) 16) ss:=by
  have:S.map (fun x:Pk=>fN 16 (len (x.2.headD 0)) 16)=(S.map (·.2)).map fun l=>fN 16 (len (l.headD 0)) 16:=by rw [List.map_map];rfl
  simp only [AT];rw [this,hS.syms,List.map_map];rfl
 have conv2:isum (fun x:Pk=>x.1*(fC 16 (len (x.2.headD 0)) 16:Nat)) S=isum (fun s=>w s*(len s:Nat)) ss:=by
  have e1:S.map (fun x:Pk=>x.1*(fC 16 (len (x.2.headD 0)) 16:Nat))=(S.map (·.2)).map fun l=>isum w l*(fC 16 (len (l.headD 0)) 16:Nat):=by
   rw [List.map_map];exact List.map_congr_left fun x hx=>by simp only [Function.comp];rw [hw x hx]
  simp only [isum] at e1⊢;rw [e1,hS.syms,List.map_map]
  have:=Bw (fun s=>(List.map w [s]).sum*(fC 16 (len s) 16:Nat)) (fun s=>w s*(len s:Nat)) ss fun s hs=>by rw [Na _ (hl s hs)];simp
  simp only [isum] at this
  exact this
 rw [conv1] at hXl
 rw [conv2] at hXw
 have e:AT (fun s=>fN 16 (len s) 16) ss+AT (fun s=>2^(16-len s)) ss=ss.length*2^16:=by
  rw [←De,BI _ (fun _=>1*2^16) ss fun s hs=>by rw [Nb _ (hl s hs),Nat.one_mul],Dg,DP]
 have hm:2*ss.length-2≤X.length:=by
  rw [hXl,Nat.le_div_iff_mul_le (Nat.two_pow_pos _)]
  rw [show (2:Nat)^16=65536 from rfl] at e hk
  rw [show (16:Nat)-1=15 from rfl,show (2:Nat)^15=32768 from rfl]
  generalize AT (fun s=>fN 16 (len s) 16) ss=A at e⊢
  generalize AT (fun s=>2^(16-len s)) ss=B at e hk
  clear hXl hXw hX conv1 conv2 hd hlong hlen k1 k2 k3 hl
  omega
 have:=E6 R hR.srt (hR.nonneg h0S) X _ hX hm
 have wt:Bn (R.take (2*ss.length-2))=isum (fun s=>w s*(By (R.take (2*ss.length-2)) s:Nat)) ss:=by
  rw [Hy w _ fun x hx=>hR.weigh w hw x (List.mem_of_mem_take hx),Eo w ss hS.nd _ k3];rfl
 omega
theorem EI{α:Type}(f:α→Nat){l:List α}{x:α}(h:x∈l):f x≤AT f l:=by
 induction l with
 | nil=>cases h
 | cons a l ih=>rw [AV];rcases List.mem_cons.1 h with rfl|h;omega;have:=ih h;omega
theorem Kf{α:Type}(f:α→Nat){l:List α}{x y:α}(hx:x∈l)(hy:y∈l)(hn:x≠y):f x+f y≤AT f l:=by
 induction l with
 | nil=>cases hx
 | cons a l ih=>
   rw [AV]
   rcases List.mem_cons.1 hx with e1|hx<;>rcases List.mem_cons.1 hy with e2|hy
   ·exact absurd (e1.trans e2.symm) hn
   ·have:=EI f hy;rw [e1];omega
   ·have:=EI f hx;rw [e2];omega
   have:=ih hx hy;omega
theorem JX{ss:List Int}{f:Int→Nat}(hk:AT (fun s=>2^(16-f s)) ss≤2^16){a b:Int}(ha:a∈ss)(hb:b∈ss)(hab:a≠b):1≤f a:=by
 have h1:2^(16-f a)+2^(16-f b)≤AT (fun s=>2^(16-f s)) ss:=Kf (fun s=>2^(16-f s)) ha hb hab
 rcases Nat.lt_or_ge (f a) 1 with h|h
 ·have:f a=0:=by omega
  rw [this] at h1
  have:1≤2^(16-f b):=Nat.one_le_two_pow
  omega
 exact h
end Go.Proofs.YtkcbhcajfcfmmaaDoor
namespace Go.Proofs.YtkcbhcajfcfmmaaDoor
attribute [local irreducible] Region.wanted
open Go.RowKit
set_option linter.unusedVariables false
set_option maxRecDepth 100000
set_option maxHeartbeats 8000000
theorem Gh(w:World)(n:Int):Calls Tryd.prog 37 #[.int .i64 n] w fun e w'=>e= .returned (.bool (decide (n<0)||decide (9999<n)))∧w=w':=by
 by_cases h:n<0
 ·have h2:decide (n<0)=true:=by simpa using h
  rw [h2]
  go_enter Tryd.func37,Tryd.ntmps37
  go_wp2_with fail
  go_ret
  exact ⟨rfl,rfl⟩
 have h2:decide (n<0)=false:=by simpa using h
 rw [h2,Bool.false_or]
 have h3:0≤n:=by omega
 clear h
 go_enter Tryd.func37,Tryd.ntmps37
 go_wp2_with fail
 go_ret
 exact ⟨rfl,rfl⟩
def bE(c:List Int):Int:=if 256<c.length then 2 else if DH c 0 9999 then 0 else 1
theorem Eb(w0:World)(c:List Int)(ad:Option Addr)(n cap:Nat)(hv:Sl w0 1 (.slice ad n cap) n (c.map (Value.int .i64)))(hn:n≤9223372036854775807):
 Calls Tryd.prog 25 #[.slice ad n cap] w0 fun e w=>e= .returned (.int .i64 (bE c))∧AX w0 w:=by
 have hl:c.length=n:=by have:=hv.1;simpa using this
 have hS:=St.start w0
 have HC:=AD (fun (w:World)(hE:AX w0 w)=>CL w (.slice ad n cap) c (by unfold J1;rw [hl];exact hv.ext hE) 37 #[] (fun n=>decide (n<0)||decide (9999<n)) Tryd.call37 (fun m=>Gh w m))
 obtain ⟨B,hB⟩:∃B,c.any (fun n=>decide (n<0)||decide (9999<n))=B:=⟨_,rfl⟩
 have hE:bE c=if 256<n then 2 else if B then 1 else 0:=by
  unfold bE DH;rw [hl,hB]
  cases B<;>rfl
 rw [hB] at HC
 rw [hE]
 clear hE hB hv
 by_cases h256:256<n
 ·rw [if_pos h256]
  go_enter Tryd.func25,Tryd.ntmps25
  repeat' (first
   | refine X0 ?_|refine JH 5 ?_|refine Gf 6 ?_|refine AG ?_;go_step|fail)
  go_ret
  exact ⟨rfl,hS.1⟩
 rw [if_neg h256]
 cases B with
 | true=>
   rw [if_pos rfl]
   go_enter Tryd.func25,Tryd.ntmps25
   repeat' (first
    | refine X0 ?_|refine JH 5 ?_|refine Gf 6 ?_|refine AG ?_;go_step|fail)
   repeat' (first
    | (refine Am 36 ?_);refine An AB Tryd.call36 (HC.out _ hS.1) ?_;rintro e w ⟨rfl,rfl⟩;refine As ?_;go_step|refine X8 ?_|refine AG ?_;go_step|fail)
   all_goals go_ret
   all_goals exact ⟨rfl,hS.1⟩
 | false=>
   rw [if_neg (by decide)]
   go_enter Tryd.func25,Tryd.ntmps25
   repeat' (first
    | refine X0 ?_|refine JH 5 ?_|refine Gf 6 ?_|refine AG ?_;go_step|fail)
   repeat' (first
    | (refine Am 36 ?_);refine An AB Tryd.call36 (HC.out _ hS.1) ?_;rintro e w ⟨rfl,rfl⟩;refine As ?_;go_step|refine X8 ?_|refine AG ?_;go_step|fail)
   all_goals go_ret
   all_goals exact ⟨rfl,hS.1⟩
structure GP where
 w:Int
 r:Sr
def Cg(p:GP):Bg:=⟨p.w,p.r.ad,p.r.xs.length,p.r.c⟩
def CW(p:GP):Pk:=(p.w,p.r.xs)
theorem Ip(G:List GP)(p:GP):((G++[p]).map Cg).flatMap FY=(G.map Cg).flatMap FY++[.int .i64 p.w, .slice p.r.ad p.r.xs.length p.r.c]:=by
 rw [List.map_append,List.flatMap_append];rfl
theorem MT(G H:List GP):((G++H).map Cg).flatMap FY=(G.map Cg).flatMap FY++(H.map Cg).flatMap FY:=by
 rw [List.map_append,List.flatMap_append]
def EK(c:List Int)(k:Nat):List Pk:=(0,[-1])::((List.range k).filter fun s=>decide (0<AF c s)).map fun s=>(AF c s,[(s:Int)])
theorem Ku(c:List Int)(k:Nat):EK c (k+1)=if 0<AF c k then EK c k++[(AF c k,[(k:Int)])] else EK c k:=by
 unfold EK
 rw [List.range_succ,List.filter_append]
 by_cases h:0<AF c k
 ·rw [if_pos h,List.filter_cons_of_pos (by simpa using h)];simp
 rw [if_neg h,List.filter_cons_of_neg (by simpa using h)];simp
theorem Lh(c:List Int)(k:Nat):(EK c k).length≤k+1:=by
 unfold EK
 have:=List.length_filter_le (fun s=>decide (0<AF c s)) (List.range k)
 simp at this⊢
 exact this
theorem BK.syll{S R:List Pk}{k:Nat}(h:BK S k R):(BY R).length≤k*(BY S).length:=by
 induction h with
 | one R p _=>have:=(CP p).length_eq;omega
 | @more k R Q h p _ ih=>
   have h1:=(CP p).length_eq
   rw [BA,List.length_append] at h1
   obtain ⟨z,hu,_⟩:=Bm R
   have h2:BY (CF R)=BY (CI (FI R)):=E3 (FI R)
   have h3:=congrArg (fun l=>(BY l).length) hu
   simp only [BA,List.length_append] at h3
   rw [h2] at h1
   rw [Nat.add_mul,Nat.one_mul]
   omega
theorem Lm{R:List Pk}{x:Pk}(h:x∈R):x.2.length≤(BY R).length:=by
 induction R with
 | nil=>cases h
 | cons a R ih=>
   rw [CB,List.length_append]
   rcases List.mem_cons.1 h with rfl|h
   ·omega
   have:=ih h;omega
theorem Jf(R:List Pk)(q:Nat)(h:2*q+1<R.length):(CF R).take (q+1)=(CF R).take q++[BU (AL R (2*q),AL R (2*q+1))]:=by
 induction q generalizing R with
 | zero=>
   match R,h with
   | a::b::l,_=>simp [CF,FI,AL]
 | succ q ih=>
   match R,h with
   | a::b::l,h=>
     have e:=ih l (by simp at h;omega)
     have e1:CF (a::b::l)=BU (a,b)::CF l:=by simp [CF,FI]
     rw [e1,List.take_succ_cons,e,List.take_succ_cons,List.cons_append]
     congr 3
theorem LQ{α:Type}[Inhabited α](l:List α)(i:Nat)(h:i<l.length):l[i]=AL l i:=by simp [AL,h]
theorem KP(G:List GP)(k:Nat)(h:k<G.length):∃p,p∈G∧AL (G.map Cg) k=Cg p∧AL (G.map CW) k=CW p:=by
 refine ⟨G[k],List.getElem_mem h,?_,?_⟩
 ·simp [AL,h]
 simp [AL,h]
theorem BK.wbd{S R:List Pk}{k:Nat}(h0:∀x∈S,0≤x.1∧x.1≤9999*x.2.length)(h:BK S k R):∀x∈R,0≤x.1∧x.1≤9999*x.2.length:=by
 induction h with
 | one R p _=>exact fun x hx=>h0 x (p.mem_iff.1 hx)
 | @more k R Q h p _ ih=>
   intro x hx
   rcases List.mem_append.1 (p.mem_iff.1 hx) with hx|hx
   ·obtain ⟨q,hq,rfl⟩:=List.mem_map.1 hx
    have h1:=ih q.1 (Dj hq).1
    have h2:=ih q.2 (Dj hq).2
    simp only [BU,List.length_append]
    push_cast
    omega
   exact h0 x hx
theorem Mf(c:List Int)(n k:Nat)(h:∀i,i<n→0≤AF c i∧AF c i≤9999)(hk:k≤n):∀x∈EK c k,0≤x.1∧x.1≤9999*x.2.length:=by
 intro x hx
 rcases List.mem_cons.1 hx with rfl|hx
 ·simp
 obtain ⟨s,hs,rfl⟩:=List.mem_map.1 hx
 have h1:=(List.mem_filter.1 hs).1
 have:=h s (by simp at h1;omega)
 simp;omega
theorem GR(c:List Int)(k:Nat):(BY (EK c k)).length=(EK c k).length:=by
 have:∀l:List Nat,(BY (l.map fun s=>(AF c s,[(s:Int)]))).length=l.length:=fun l=>by
  induction l with
  | nil=>rfl
  | cons a l ih=>rw [List.map_cons,CB,List.length_append,ih];simp;omega
 unfold EK
 rw [CB,List.length_append,this]
 simp;omega
theorem Kr{c:List Int}{n j:Nat}{R:List Pk}(h:∀i,i<n→0≤AF c i∧AF c i≤9999)(hn:n≤256)(hj:j≤16)(hR:BK (EK c n) j R):∀x∈R,0≤x.1∧x.1≤50000000∧x.2.length≤5000:=by
 intro x hx
 have h1:=hR.wbd (Mf c n n h (Nat.le_refl _)) x hx
 have h2:=hR.syll
 have h3:=Lm hx
 have h4:=Lh c n
 rw [GR] at h2
 have h5:j*(EK c n).length≤16*257:=Nat.mul_le_mul hj (by omega)
 omega
def Ef(l:List Int)(s:Int):Option Value:=if l.count s=0 then none else some (.int .i64 (l.count s:Nat))
theorem JN(l:List Int)(s:Int):(fun j=>if j=s then some (Value.int .i64 ((l.count s+1:Nat):Int)) else Ef l j)=Ef (l++[s]):=by
 funext j
 unfold Ef
 rw [List.count_append]
 by_cases h:j=s
 ·subst h;simp
 have:List.count j [s]=0:=by rw [List.count_eq_zero];simp [h]
 rw [if_neg h,this,Nat.add_zero]
theorem KK:Ef []=fun _=>none:=by funext j;simp [Ef]
def A5(f:Int→Nat)(n k:Nat):List Int:=((List.range n).filter fun (s:Nat)=>decide (f (s:Int)=k)).map fun (s:Nat)=>(s:Int)
theorem DT(f:Int→Nat)(n k:Nat):A5 f (n+1) k=if f (n:Int)=k then A5 f n k++[(n:Int)] else A5 f n k:=by
 unfold A5
 rw [List.range_succ,List.filter_append]
 by_cases h:f (n:Int)=k
 ·rw [if_pos h,List.filter_cons_of_pos (by simpa using h)];simp
 rw [if_neg h,List.filter_cons_of_neg (by simpa using h)];simp
def BS(f:Int→Nat)(n k:Nat):List Int:=(List.range k).flatMap fun i=>A5 f n (i+1)
theorem BW(f:Int→Nat)(n k:Nat):BS f n (k+1)=BS f n k++A5 f n (k+1):=by
 unfold BS;rw [List.range_succ,List.flatMap_append];simp
theorem C6(f:Int→Nat)(n k:Nat):(A5 f n k).length≤n:=by
 have:=List.length_filter_le (fun s:Nat=>decide (f (s:Int)=k)) (List.range n)
 simp [A5] at this⊢;exact this
theorem IX(f:Int→Nat)(n k:Nat):(BS f n k).length≤k*n:=by
 induction k with
 | zero=>simp [BS]
 | succ k ih=>rw [BW,List.length_append,Nat.add_mul,Nat.one_mul];have:=C6 f n (k+1);omega
def DI(f:Int→Nat)(n k s i:Nat):Int:=if i<k then ((A5 f n (i+1)).length:Nat) else if i=k then ((A5 f s (i+1)).length:Nat) else 0
end Go.Proofs.YtkcbhcajfcfmmaaDoor
