/- What the laws DeskErrors need, part 6. -/
import Derived.Test.YtngojkompmcceaaGreatDoorBaseEZ1
import Derived.Test.YtngojkompmcceaaGreatDoorBaseEZ2
import Derived.Test.YtngojkompmcceaaGreatDoorBaseEZ5
import Derived.Lib.AppendZeros
import Derived.Laws.Cover3
import Derived.WideKeyRuns
namespace Go.Proofs.YtngojkompmcceaaGreatDoor
attribute [local irreducible] Region.wanted
open Go.RowKit
set_option linter.unusedVariables false
set_option maxRecDepth 100000
set_option maxHeartbeats 8000000
theorem Hy{lo hi:Nat}{P:List Bu}(h:hi≤lo):B7 Bu.w lo hi P:=fun i j h1 h2 h3=>by omega
theorem FH{lo hi lo' hi':Nat}{P:List Bu}(h:B7 Bu.w lo hi P)(h1:lo=lo')(h2:hi'≤hi):B7 Bu.w lo' hi' P:=by subst h1;exact h.sub (Nat.le_refl _) h2
def OB(s n:Nat)(P:List Bu):Prop:=∀k,B7 Bu.w (k*s) (min (k*s+s) n) P
theorem JF(W w0:World)(rs rs':List Af)(g n c:Nat)(P:List Bu)(hS:St W w0 rs)(hp:AK (BG g n c P) rs rs')(hn:n≤100000):
 Calls Tryz.prog 98 #[.slice (some ⟨g,0,none⟩) n c, .int .i64 n,Oo] w0 fun e w=>e= .returned (.tuple #[])∧∃Q,B7 Bu.w 0 n Q∧Rg 0 n P Q∧St W w (BG g n c Q::rs'):=by
 replace hS:=hS.pull hp
 have hPl:=CR hS AK.head BV (by decide)
 clear hp
 go_enter Tryz.func98,Tryz.ntmps98
 repeat' (first
  | refine X0 ?_|refine AF ?_;go_step|fail)
 go_loopg [7,8] n (fun gk av bv w=>∃(k a:Nat) (Q:List Bu),gk+k=n∧a=k*20∧a≤n∧av= .int .i64 a∧bv= .int .i64 (a+20:Nat)∧(∀j,j<k→B7 Bu.w (j*20) (j*20+20) Q)∧Rg 0 n P Q∧St W w (BG g n c Q::rs'))
 case atStart=>exact ⟨0,0,P,by omega,rfl,by omega,rfl,rfl,fun j h=>by omega,Rg.refl _ _ _,hS⟩
 case round=>
  clear hS
  obtain ⟨k,a,Q,hk,ha,han,rfl,rfl,hA,hR,hS⟩:=hrel
  have HA:=AD hA
  have HR:=AD hR
  have hQl:=hR.len
  clear hA hR
  by_cases hlt:a+20≤n
  ·have HC:=AD (fun (w:World)(hS:St W w (BG g n c Q::rs'))=>Ev W w (BG g n c Q::rs') rs' g n c a (a+20) Q hS AK.head (by omega) hlt (by omega))
   repeat' (first
    | (refine AM 22 ?_);(refine AR (.int _ (((a+20+20:Nat):Int))) (V.as (V.addI rfl rfl (by omega)) (by omega)) (by kernel_rfl) ?_;go_step)|(refine Av 111 ?_);refine Aw AA Tryz.call111 (HC.out _ hS) ?_;rintro e w ⟨rfl,Z,hZ1,hZ2,hS2⟩;replace hS:=hS2;clear hS2;refine A9 ?_;go_step|refine X0 ?_|refine OF 13 ?_|refine AF ?_;go_step|fail)
   go_roundg (gk-1)
   case measure=>omega
   case rel=>
    refine ⟨k+1,a+20,Z,by omega,by omega,by omega,rfl,by go_num,fun j hj=>?_,HR.out.trans (hZ2.wide (by omega) (by omega) (by omega) (by omega)),hS⟩
    by_cases hjk:j=k
    ·subst hjk;rw [←ha];exact hZ1
    exact (HA.out j (by omega)).same fun x k1 k2=>hZ2.out x (by omega)
  have HC:=AD (fun (w:World)(hS:St W w (BG g n c Q::rs'))=>Ev W w (BG g n c Q::rs') rs' g n c a n Q hS AK.head (by omega) (by omega) (by omega))
  repeat' (first
   | refine X1 ?_|refine OF 13 ?_|refine AF ?_;go_step|fail)
  repeat' (first
   | (refine Av 111 ?_);refine Aw AA Tryz.call111 (HC.out _ hS) ?_;rintro e w ⟨rfl,Z,hZ1,hZ2,hS2⟩;replace hS:=hS2;clear hS2;refine A9 ?_;go_step|refine AF ?_;go_step|fail)
  have hB:OB 20 n Z:=fun j=>by
   by_cases h1:j<k
   ·exact ((HA.out j h1).same fun x k1 k2=>hZ2.out x (by omega)).sub (Nat.le_refl _) (Nat.min_le_left _ _)
   by_cases h2:j=k
   ·subst h2;rw [←ha];exact hZ1.sub (Nat.le_refl _) (Nat.min_le_right _ _)
   exact Hy (by omega)
  have hRZ:Rg 0 n P Z:=HR.out.trans (hZ2.wide (by omega) (by omega) (by omega) (by omega))
  have HB:=AD hB
  have HRZ:=AD hRZ
  clear hB hRZ HR HA HC hZ1 hZ2
  go_loopg [6] (n-20) (fun gk sv w=>∃(s:Nat) (Q:List Bu),gk+s=max n s∧1≤s∧s≤2*n+20∧sv= .int .i64 s∧OB s n Q∧Rg 0 n P Q∧St W w (BG g n c Q::rs'))
  case atStart=>exact ⟨20,Z,by omega,by omega,by omega,rfl,HB.out,HRZ.out,hS⟩
  case round=>
   clear hS HB HRZ
   obtain ⟨s,Q,hk,hs1,hs2,rfl,hB,hR,hS⟩:=hrel
   have HB:=AD hB
   have HR:=AD hR
   have hQl:=hR.len
   clear hB hR
   by_cases hlt2:s<n
   ·obtain ⟨gk1,hgk1⟩:∃x,x=gk:=⟨_,rfl⟩
    subst hgk1
    obtain ⟨t,ht⟩:∃t,t=2*s:=⟨_,rfl⟩
    repeat' (first
     | refine Pg 32 ?_|refine X0 ?_|refine X2 30 ?_|refine AF ?_;go_step|fail)
    go_loopg [7,8] n (fun gk av bv w=>∃(k a:Nat) (Q:List Bu),gk+k=n∧a=k*t∧a≤n∧av= .int .i64 a∧bv= .int .i64 (a+t:Nat)∧(∀j,j<k→B7 Bu.w (j*t) (j*t+t) Q)∧(∀j,2*k≤j→B7 Bu.w (j*s) (min (j*s+s) n) Q)∧Rg 0 n P Q∧St W w (BG g n c Q::rs'))
    case atStart=>exact ⟨0,0,Q,by omega,by omega,by omega,rfl,by rw [Nat.zero_add],fun j h=>by omega,fun j _=>HB.out j,HR.out,hS⟩
    case round=>
     clear hS HB HR
     obtain ⟨k,a,Q,hk3,ha,han,rfl,rfl,hA,hA2,hR,hS⟩:=hrel
     have hQl:=hR.len
     have m1:2*k*s=a:=by rw [ha,ht,Nat.mul_comm 2 k,Nat.mul_assoc]
     have m2:(2*k+1)*s=a+s:=by rw [Nat.add_mul,m1,Nat.one_mul]
     have m3:(k+1)*t=a+t:=by rw [Nat.add_mul,Nat.one_mul,←ha]
     have m4:∀j,2*k+2≤j→a+t≤j*s:=fun j hj=>by
      have:=Nat.mul_le_mul_right s hj
      rw [show (2*k+2)*s=a+t by rw [Nat.add_mul,m1,ht]] at this
      exact this
     have m5:∀j,j<k→j*t+t≤a:=fun j hj=>by
      have:=Nat.mul_le_mul_right t hj
      rw [Nat.succ_mul,←ha] at this
      exact this
     have m6:∀j,k<j→a+t≤j*t:=fun j hj=>by
      have:=Nat.mul_le_mul_right t hj
      rw [show (k.succ)*t=a+t from m3] at this
      exact this
     have hkt:k≤k*t:=Nat.le_mul_of_pos_right k (by omega)
     rw [←ha] at hkt
     have a1:=hA2 (2*k) (Nat.le_refl _)
     have a2:=hA2 (2*k+1) (by omega)
     rw [m1] at a1
     rw [m2] at a2
     have HA:=AD hA
     have HA2:=AD hA2
     have HR:=AD hR
     have M3:=AD m3
     have M4:=AD m4
     have M5:=AD m5
     have M6:=AD m6
     have Ha:=AD ha
     clear hA hA2 hR m1 m2 m3 m4 m5 m6 ha
     by_cases hlt:a+t≤n
     ·have HC:=AD (fun (w:World)(hS:St W w (BG g n c Q::rs'))=>ES n W w (BG g n c Q::rs') rs' g n c a (a+s) (a+t) Q (by omega) hS AK.head (by omega) (by omega) hlt (by omega) (FH a1 rfl (by omega)) (FH a2 rfl (by omega)))
      clear a1 a2
      repeat' (first
       | refine P6 40 ?_|refine Pg 47 ?_|(refine AM 48 ?_);(refine AR (.int _ (((a+t+t:Nat):Int))) (V.as (V.addI rfl rfl (by omega)) (by omega)) (by kernel_rfl) ?_;go_step)|(refine Av 112 ?_);refine Aw AA Tryz.call112 (HC.out _ hS) ?_;rintro e w ⟨rfl,Z,hZ1,hZ2,hS2⟩;replace hS:=hS2;clear hS2;refine A9 ?_;go_step|refine X0 ?_|refine OF 35 ?_|refine AF ?_;go_step|fail)
      go_roundg (gk-1)
      case measure=>omega
      case rel=>
       refine ⟨k+1,a+t,Z,by omega,M3.out.symm,by omega,rfl,by go_num,fun j hj=>?_,fun j hj=>?_,HR.out.trans (hZ2.wide (by omega) (by omega) (by omega) (by omega)),hS⟩
       ·by_cases hjk:j=k
        ·subst hjk;rw [←Ha.out];exact hZ1
        have:=M5.out j (by omega)
        exact (HA.out j (by omega)).same fun x k1 k2=>hZ2.out x (by omega)
       have:=M4.out j (by omega)
       exact (HA2.out j (by omega)).same fun x k1 k2=>hZ2.out x (by omega)
     have HF:Hid (∀Z,B7 Bu.w a n Z→Rg a n Q Z→OB t n Z∧Rg 0 n P Z):=fun Z hZ1 hZ2=>⟨fun j=>by
      by_cases h1:j<k
      ·have:=M5.out j h1
       exact ((HA.out j h1).same fun x k1 k2=>hZ2.out x (by omega)).sub (Nat.le_refl _) (Nat.min_le_left _ _)
      by_cases h2:j=k
      ·subst h2;rw [←Ha.out];exact hZ1.sub (Nat.le_refl _) (Nat.min_le_right _ _)
      have:=M6.out j (by omega)
      exact Hy (by omega),HR.out.trans (hZ2.wide (by omega) (by omega) (by omega) (by omega))⟩
     by_cases hm:a+s<n
     ·have HC:=AD (fun (w:World)(hS:St W w (BG g n c Q::rs'))=>ES n W w (BG g n c Q::rs') rs' g n c a (a+s) n Q (by omega) hS AK.head (by omega) hm (by omega) (by omega) (FH a1 rfl (by omega)) (FH a2 rfl (by omega)))
      clear a1 a2
      repeat' (first
       | refine X1 ?_|refine OF 35 ?_|refine AF ?_;go_step|fail)
      repeat' (first
       | refine P6 51 ?_|refine Pg 62 ?_|(refine Av 112 ?_);refine Aw AA Tryz.call112 (HC.out _ hS) ?_;rintro e w ⟨rfl,Z,hZ1,hZ2,hS2⟩;replace hS:=hS2;clear hS2;refine A9 ?_;go_step|refine X0 ?_|refine X2 54 ?_|refine AF ?_;go_step|fail)
      obtain ⟨b1,b2⟩:=HF.out Z hZ1 hZ2
      go_roundg (n-t)
      case measure=>omega
      case rel=>exact ⟨t,Z,by omega,by omega,by omega,by go_num,b1,b2,hS⟩
     obtain ⟨b1,b2⟩:=HF.out Q (FH a1 rfl (by omega)) (Rg.refl _ _ _)
     have B1:=AD b1
     have B2:=AD b2
     clear a1 a2 b1 b2
     repeat' (first
      | refine X1 ?_|refine OF 35 ?_|refine AF ?_;go_step|fail)
     repeat' (first
      | refine P6 51 ?_|refine X0 ?_|refine X2 54 ?_|refine AF ?_;go_step|fail)
     repeat' (first
      | refine Pg 62 ?_|refine X7 ?_|refine AF ?_;go_step|fail)
     go_roundg (n-t)
     case measure=>omega
     case rel=>exact ⟨t,Q,by omega,by omega,by omega,by go_num,B1.out,B2.out,hS⟩
   repeat' (first
    | refine X1 ?_|refine X2 30 ?_|refine AF ?_;go_step|fail)
   go_end0
   have:=HB.out 0
   rw [Nat.zero_mul,Nat.zero_add] at this
   exact ⟨rfl,Q,this.sub (Nat.le_refl _) (by omega),HR.out,hS⟩
theorem DS(W w0:World)(rs rs':List Af)(g n c:Nat)(P:List Bu)(hS:St W w0 rs)(hp:AK (BG g n c P) rs rs')(hn:n≤100000):
 Calls Tryz.prog 73 #[.slice (some ⟨g,0,none⟩) n c,Oo] w0 fun e w=>e= .returned (.tuple #[])∧∃Q,Q.Perm P∧Q.Pairwise (fun a b=>a.w≤b.w)∧St W w (BG g n c Q::rs'):=by
 replace hS:=hS.pull hp
 have hPl:=CR hS AK.head BV (by decide)
 have HC:=AD (fun (w:World)(hS:St W w (BG g n c P::rs'))=>JF W w (BG g n c P::rs') rs' g n c P hS AK.head hn)
 clear hp
 go_enter Tryz.func73,Tryz.ntmps73
 repeat' (first
  | (refine Av 98 ?_);refine Aw AA Tryz.call98 (HC.out _ hS) ?_;rintro e w ⟨rfl,Z,hZ1,hZ2,hS2⟩;replace hS:=hS2;clear hS2;refine A9 ?_;go_step|refine X1 ?_|(with_reducible refine Al _ (.call ⟨.builtin .len,_,_⟩) ?_);(refine AY AA (V.len Tryz.underlying110 rfl) ?_;go_step)|refine AF ?_;go_step|fail)
 go_end0
 rw [←hPl] at hZ1 hZ2
 have hl:=hZ2.len
 exact ⟨rfl,Z,hZ2.all,B7.pair (hl.symm▸ hZ1),hS⟩
theorem FO(g c s:Nat):Et (some ⟨g,0,none⟩) c 0 s=some ⟨g,0,none⟩:=by
 unfold Et
 split
 ·rfl
 rw [Option.map_some,Addr.add_mid,Nat.zero_mul]
section
variable{P:Program}{W w:World}{rs rs':List Af}{Q:Exit→Act→World→Prop}{K:Act→World→Prop}{o:Oper}{a:Act}
theorem JS(hS:St W w rs)(s x:Operand)(t tn:TypeId)(ho:o.op= .call {callee:= .builtin .append,args:=#[s,x],argTypes:=#[t,tn]})(e:TypeId)(b:Nat)(k:IntKind)(el:Hw P t e k 1 b)(kn:IntKind)(htn:P.underlying tn=some (.int kn))
 (hs:a.eval s= .slice none 0 0) (k2:IntKind) (n:Nat) (hx:a.eval x= .int k2 n) (h0:0<n) (h63:n≤maxLen) (hb:n*b≤281474976710656)
 (h:∀g c' w',n≤c'→c'≤maxLen→St W w' (own e 1 (some ⟨g,0,none⟩) 0 c' []::rs)→K (a.put o.dst (.slice (some ⟨g,0,none⟩) n c')) w'):o.wp P a w K Q:=by
 obtain ⟨ht,⟨i,z,hi,hz,hsz,hby,hzc⟩,_⟩:=el
 have hr:=Lib.run_append_nil_zeros (P:=P) w t tn o.type e i z k2 kn ht htn hi hz n h0 (by omega) (by unfold maxLen at h63;omega) (by rw [hby];exact hb)
 have hg1:=grownCap_ge w n 0 e
 have hg2:=grownCap_le_maxLen w n 0 e h63
 obtain ⟨G,hG⟩:∃G,grownCap w n 0 e=G:=⟨_,rfl⟩
 rw [hG] at hr hg1 hg2
 refine Lib.wp_append_run w s x t tn ho _ _ hs hx _ _ hr (h _ _ _ hg1 hg2 ?_)
 have hS2:=hS.drew
 obtain ⟨h1,f,h2,h3,h4⟩:=hS2
 refine ⟨h1.alloc _,w.heap.size::f,List.nodup_cons.2 ⟨fun hm=>by have:=h4.lt _ hm;exact absurd this (Nat.lt_irrefl _),h2⟩,fun b hb=>?_,[w.heap.size],f,rfl,⟨rfl,rfl, .inr ⟨w.heap.size,G,_,rfl,Nat.zero_le _,heap_alloc_new w.drew _,Nat.zero_le _,hg2,?_,by simp⟩⟩,h4.loc fun b hb=>?_⟩
 ·rcases List.mem_cons.1 hb with h|h
  ·rw [h];exact h1.sz
  exact h3 b h
 ·rw [Array.size_append,size_zeroCells,size_zeroCells,hzc,Array.size_replicate];omega
 exact heap_alloc_old w.drew _ (h4.lt b hb)
end
theorem V.cap{P:Program}{a:Act}{x:Operand}{t ty:TypeId}{ad:Option Addr}{n c:Nat}{e:TypeId}(ht:P.underlying t=some (.slice e))(hx:a.eval x= .slice ad n c):Bk P (.call {callee:= .builtin .cap,args:=#[x],argTypes:=#[t]}) ty a (.int .i64 c):=fun d pos af g w=>by
 have e:P.elem t=e:=by simp [Program.elem,ht]
 have e2:=run_cap_slice (P:=P) w t ty ad n c (by rw [e];exact ht)
 simp only [execOp,resolve,invoke,builtin,Sem.run_bind,Sem.run_pure,Result.andThen_ok,List.map_toArray,List.map_cons,List.map_nil,hx,e2]
 rfl
theorem Li(w0:World)(n:Nat)(hn:n≤1000000):Calls Tryz.prog 100 #[.slice none 0 0, .int .i64 n] w0 fun e w=>∃(ad:Option Addr) (c:Nat),e= .returned (.slice ad 0 c)∧St w0 w [own 3 1 ad 0 c []]:=by
 have hS:=St.start w0
 go_enter Tryz.func100,Tryz.ntmps100
 by_cases h0:n=0
 ·subst h0
  repeat' (first
   | refine X0 ?_|refine X2 6 ?_|refine AF ?_;go_step|fail)
  repeat' (first
   | refine P9 13 ?_|refine P9 14 ?_|refine X0 ?_|(refine AM 10 ?_);(refine AY AA (V.cap Tryz.underlying46 rfl) ?_;go_step)|refine J4 12 ?_|refine J2 16 ?_|refine AF ?_;go_step|fail)
  repeat' (first
   | refine AF ?_;go_step|fail)
  go_ret
  exact ⟨none,0,rfl,hS.nil 3 1⟩
 repeat' (first
  | refine X0 ?_|refine X2 6 ?_|refine AF ?_;go_step|fail)
 repeat' (first
  | refine P9 13 ?_|(refine AM 14 ?_);(refine AR (.int _ (((n:Nat):Int))) (V.as (V.subI rfl rfl (by omega)) (by omega)) (by kernel_rfl) ?_;go_step)|refine X0 ?_|(refine AM 10 ?_);(refine AY AA (V.cap Tryz.underlying46 rfl) ?_;go_step)|refine J4 12 ?_|refine J2 16 ?_|refine AF ?_;go_step|fail)
 repeat' (first
  | (refine AM 20 ?_);refine AR (.slice none 0 0) (V.slice Tryz.underlying46 BX rfl .none (.some rfl (show Ar ((0:Nat):Int) 0 from rfl)) (Nat.le_refl _) (Nat.le_refl _)) AA ?_;go_step|(refine AM 22 ?_);refine Aq ?_;refine JS (o:=⟨some 22,_,_,_,_,_⟩) hS _ _ 46 3 rfl 3 8 .i64 O9 .i64 Tryz.underlying3 rfl .i64 n rfl (by omega) (by unfold maxLen;omega) (by omega) ?_;clear hS;intro g22 c22 w hc1 hc2 hS;refine AB ?_;go_step|refine X0 ?_|(refine AM 19 ?_);(refine AY AA (V.cap Tryz.underlying46 rfl) ?_;go_step)|refine J4 24 ?_|(refine AM 25 ?_);(refine AY AA (V.slice Tryz.underlying46 BX rfl (by (first|exact Lo.none|exact Lo.some rfl BW)) (by (first|exact Up.none|exact Up.some rfl BW)) (by omega) (by omega)) ?_;go_step)|refine AF ?_;go_step|fail)
 go_ret
 refine ⟨some ⟨g22,0,none⟩,c22,?_,hS⟩
 show Ending.returned (.slice (Et (some ⟨g22,0,none⟩) c22 0 1) (0-0) (c22-0))=_
 rw [FO]
 rfl
theorem AK.mem2:∀(ss rs:List Af)(r:Af),∃ss',AK r (ss++r::rs) ss'
 | [],rs,r=>⟨rs, .head⟩
 | x::ss,rs,r=>by obtain ⟨s,hs⟩:=AK.mem2 ss rs r;exact ⟨x::s, .tail hs⟩
theorem Jn(P:List Bu):∀u∈P.flatMap GG,u.oneCell'=true:=fun u hu=>by
 obtain ⟨p,_,h⟩:=List.mem_flatMap.1 hu
 simp only [GG,List.mem_cons,List.mem_nil_iff,or_false] at h
 rcases h with rfl|rfl<;>rfl
theorem V.eqlNilS{P:Program}{a:Act}{x y:Operand}{t ty u e:TypeId}{ad:Option Addr}{n c:Nat}(ht:P.underlying t=some (.slice e))(hg:P.eqGuardType P.depth t=false)(hx:a.eval x= .slice ad n c)(hy:a.eval y= .slice none 0 0):Bk P (.binOp .eql t x y u) ty a (.bool ad.isNone):=fun d pos af g w=>by
 have e1:(eqGuard .eql t x y (.slice ad n c) (.slice none 0 0)).run P w= .ok () w:=by
  unfold eqGuard
  simp
 have e2:(binOp .eql t (.slice ad n c) (.slice none 0 0)).run P w= .ok (.bool ad.isNone) w:=by
  have:binOp .eql t (.slice ad n c) (.slice none 0 0)=(do pure (.bool (←Op.equal t (.slice ad n c) (.slice none 0 0)))):=rfl
  rw [this]
  simp only [Sem.run_bind,run_equal_slice_nil w t e ad n c ht,Result.andThen_ok,Sem.run_pure]
 simp only [execOp,hx,hy,Sem.run_bind,e1,Result.andThen_ok,e2,Sem.run_pure]
section
variable{P:Program}{W w:World}{rs rs':List Af}{Q:Exit→Act→World→Prop}{K:Act→World→Prop}{o:Oper}{a:Act}
theorem Fv(hS:St W w rs)(t:TypeId)(ho:o.op= .buildSlice t 0 #[])(e:TypeId)(s b:Nat)(el:Bq P t e s b)
 (h:∀g w',St W w' (own e s (some ⟨g,0,none⟩) 0 0 []::rs)→K (a.put o.dst (.slice (some ⟨g,0,none⟩) 0 0)) w'):o.wp P a w K Q:=by
 obtain ⟨ht,⟨i,z,hi,hz,hsz,hb,hzs⟩,hp⟩:=el
 have hr:(Instr.buildSlice t 0 #[]).run P w= .ok (.slice (some ⟨w.heap.size,0,none⟩) 0 0) (w.alloc (.cells #[] e)):=by
  simp [Instr.buildSlice,run_underlying ht,sizeOf,typeInfo,hi,Instr.fill,newRow]
  rw [Array.eq_empty_of_size_eq_zero (xs:=Array.map (fun x=>default) (Array.range 0)) (by simp)]
 have hst:=hS.allocOwn e s 0 [] (by simp) (Nat.zero_le _)
 unfold Oper.wp execOp
 simp only [ho,Sem.run_bind,Array.map_empty,hr,Result.andThen_ok,Sem.run_pure]
 exact h _ _ hst
end
theorem J9(W w0:World)(rs rs':List Af)(g n c:Nat)(P:List Bu)(hS:St W w0 rs)(hp:AK (BG g n c P) rs rs')(hn:n≤100000)(hn0:0<n):
 Calls Tryz.prog 75 #[.slice (some ⟨g,0,none⟩) n c] w0 fun e w=>∃(g' c':Nat),e= .returned (.slice (some ⟨g',0,none⟩) n c')∧St W w (BG g' n c' P::BG g n c P::rs'):=by
 replace hS:=hS.pull hp
 go_enter Tryz.func75,Tryz.ntmps75
 have he:=BV
 have hsl:∀w rs2,St W w (rs2++BG g n c P::rs')→Sl w 2 (.slice (some ⟨g,0,none⟩) n c) n (P.flatMap GG):=fun w rs2 h=>by
  obtain ⟨ss',hp⟩:=AK.mem2 rs2 rs' (BG g n c P)
  exact h.sl hp
 repeat' (first
  | (refine AM 4 ?_);refine AR (.bool false) (V.eqlNilS (ad:=some ⟨g,0,none⟩) (n:=n) (c:=c) Tryz.underlying110 AA rfl rfl) AA ?_;go_step|refine X0 ?_|refine AF ?_;go_step|fail)
 repeat' (first
  | (refine AM 5 ?_);refine Aq ?_;refine Fv (o:=⟨some 5,_,_,_,_,_⟩) hS 110 rfl 109 2 32 Eu ?_;clear hS;intro g5 w hS;refine AB ?_;go_step|(refine AM 7 ?_);refine Aq ?_;refine Am (o:=⟨some 7,_,_,_,_,_⟩) hS _ _ 110 rfl 109 2 32 Eu _ _ _ _ rfl .head _ rfl n _ (hsl _ [_] hS) (Jn P) (by unfold maxLen;omega) (by omega) ?_;clear hS;intro ad7 c7 w hS;refine AB ?_;go_step|refine X0 ?_|refine AF ?_;go_step|fail)
 go_ret
 rw [Nat.zero_add,List.nil_append] at hS
 obtain ⟨g',rfl⟩:=BS hS .head hn0
 refine ⟨g',c7,?_,hS⟩
 show Ending.returned (.slice (some ⟨g',0,none⟩) (0+n) c7)=_
 rw [Nat.zero_add]
structure Sr where
 ad:Option Addr
 c:Nat
 xs:List Int
def Sr.val(p:Sr):Value:= .slice p.ad p.xs.length p.c
def Sr.res(p:Sr):Af:=own 3 1 p.ad p.xs.length p.c (p.xs.map (Value.int .i64))
def FQ(R:List Sr)(k:Nat):List Int:=(R.take k).flatMap (·.xs)
theorem GU(R:List Sr)(k:Nat)(r:Sr)(h:R[k]? =some r):FQ R (k+1)=FQ R k++r.xs:=by
 obtain ⟨hk,e⟩:=List.getElem?_eq_some_iff.1 h
 unfold FQ
 rw [List.take_succ_eq_append_getElem hk,List.flatMap_append,e]
 simp
theorem NH(R:List Sr)(k:Nat):(FQ R k).length≤(R.flatMap (·.xs)).length:=by
 have:R.flatMap (·.xs)=(R.take k).flatMap (·.xs)++(R.drop k).flatMap (·.xs):=by rw [←List.flatMap_append,List.take_append_drop]
 rw [this,List.length_append]
 unfold FQ
 omega
theorem Iv(w0:World)(g m mc:Nat)(R:List Sr)(hv:Sl w0 1 (.slice (some ⟨g,0,none⟩) m mc) m (R.map Sr.val))(hr:∀r∈R,Sl w0 1 r.val r.xs.length (r.xs.map (Value.int .i64)))(hm:m≤1000)(hb:(R.flatMap (·.xs)).length≤1000000):
 Calls Tryz.prog 76 #[.slice (some ⟨g,0,none⟩) m mc] w0 fun e w=>∃(ad:Option Addr) (c:Nat),e= .returned (.slice ad (R.flatMap (·.xs)).length c)∧St w0 w [own 3 1 ad (R.flatMap (·.xs)).length c ((R.flatMap (·.xs)).map (Value.int .i64))]:=by
 have hS:=St.start w0
 have hRl:R.length=m:=by have:=hv.1;simpa using this
 have HC:Hid (∀k r,k<m→R[k]? =some r→w0.cell? ⟨g,k,none⟩=some (.slice r.ad r.xs.length r.c)):=fun k r hk h=>by
  obtain ⟨_,a1,c1,e1,_,_,hor⟩:=hv
  cases e1
  rcases hor with h0|⟨b0,o0,e2,hc⟩
  ·omega
  cases e2
  have:=hc k (by omega)
  rw [Nat.zero_add,List.getElem?_map,h] at this
  exact this
 have HR:=AD hr
 have HF:Hid (FQ R m=R.flatMap (·.xs)):=by unfold Hid;unfold FQ;rw [←hRl,List.take_length]
 have HL:Hid (∀k,(FQ R k).length≤1000000):=fun k=>Nat.le_trans (NH R k) hb
 rw [←HF.out]
 clear hv hr hb
 go_enter Tryz.func76,Tryz.ntmps76
 repeat' (first
  | refine X0 ?_|(refine AM 10 ?_);(refine AY AA (V.len Tryz.underlying143 rfl) ?_;go_step)|refine AF ?_;go_step|fail)
 go_loopg [3,11] m (fun gk sv iv w=>∃(k L:Nat),gk+k=m∧L=(FQ R k).length∧iv= .int .i64 k∧sv= .int .i64 L∧St w0 w [])
 case atStart=>exact ⟨0,0,by omega,rfl,rfl,rfl,hS⟩
 case round=>
  clear hS
  obtain ⟨k,L,hk,hL,rfl,rfl,hS⟩:=hrel
  have hL0:=HL.out k
  rw [←hL] at hL0
  by_cases hlt:k<m
  ·obtain ⟨r,hr⟩:∃r,R[k]? =some r:=⟨_,List.getElem?_eq_getElem (by omega)⟩
   have hc:=HC.out k r hlt hr
   have hf:=congrArg List.length (GU R k r hr)
   rw [List.length_append,←hL] at hf
   have hL1:=HL.out (k+1)
   obtain ⟨N,hN⟩:∃N,r.xs.length=N:=⟨_,rfl⟩
   rw [hN] at hf hc
   have HFk:=AD hf
   rw [hf] at hL1
   clear hf hN hr
   repeat' (first
    | refine X0 ?_|refine X2 12 ?_|(refine AM 13 ?_);(refine AY AA (V.indexSl Tryz.underlying143 Nw rfl rfl BW (by omega) (Nat.mul_one _) Br) ?_;go_step)|refine QV ?_|refine AF ?_;go_step|fail)
   repeat' (first
    | (refine AM 18 ?_);(refine AR (.int _ (((L+N:Nat):Int))) (V.as (V.addI rfl rfl (by omega)) (by omega)) (by kernel_rfl) ?_;go_step)|refine X0 ?_|refine J4 17 ?_|refine X2 20 ?_|refine AF ?_;go_step|fail)
   repeat' (first
    | refine Oy 22 ?_|refine X1 ?_|refine AF ?_;go_step|fail)
   go_roundg (gk-1)
   case measure=>omega
   case rel=>exact ⟨k+1,L+N,by omega,HFk.out.symm,by go_num,rfl,hS⟩
  obtain rfl:k=m:=by omega
  repeat' (first
   | refine X1 ?_|refine X2 12 ?_|refine AF ?_;go_step|fail)
  repeat' (first
   | (refine Av 100 ?_);refine Aw AA Tryz.call100 (Li _ L (by omega)) ?_;rintro e w ⟨ad,cc,rfl,hS2⟩;replace hS:=hS.call1 hS2;clear hS2;refine A9 ?_;go_step|refine X0 ?_|(refine AM 26 ?_);(refine AY AA (V.len Tryz.underlying143 rfl) ?_;go_step)|refine AF ?_;go_step|fail)
  go_loopg [6,27] k (fun gk sv iv w=>∃(j M:Nat) (aa:Option Addr) (ca:Nat),gk+j=k∧M=(FQ R j).length∧iv= .int .i64 j∧sv= .slice aa M ca∧St w0 w [own 3 1 aa M ca ((FQ R j).map (Value.int .i64))])
  case atStart=>exact ⟨0,0,ad,cc,by omega,rfl,rfl,rfl,hS⟩
  case round=>
   clear hS
   obtain ⟨j,M,aa,ca,hj,hM,rfl,rfl,hS⟩:=hrel
   have hM0:=HL.out j
   rw [←hM] at hM0
   by_cases hlt2:j<k
   ·obtain ⟨r,hr⟩:∃r,R[j]? =some r:=⟨_,List.getElem?_eq_getElem (by omega)⟩
    have hc:=HC.out j r hlt2 hr
    have hsl:Sl w0 1 (.slice r.ad r.xs.length r.c) r.xs.length (r.xs.map (Value.int .i64)):=HR.out r (List.mem_of_getElem? hr)
    have hfe:=GU R j r hr
    have hf:=congrArg List.length hfe
    rw [List.length_append,←hM] at hf
    have hM1:=HL.out (j+1)
    obtain ⟨N,hN⟩:∃N,r.xs.length=N:=⟨_,rfl⟩
    rw [hN] at hf hc hsl
    have HFk:=AD hf
    have HFE:=AD hfe
    rw [hf] at hM1
    clear hf hN hr hfe
    repeat' (first
     | (refine AM 34 ?_);(refine AR (.int _ (((j+1:Nat):Int))) (V.as (V.addI rfl rfl (by omega)) (by omega)) (by kernel_rfl) ?_;go_step)|refine X0 ?_|refine X2 28 ?_|(refine AM 29 ?_);(refine AY AA (V.indexSl Tryz.underlying143 Nw rfl rfl BW (by omega) (Nat.mul_one _) Br) ?_;go_step)|refine QV ?_|refine PU 33 ?_;clear hS;intro ad33 c33 w hS|refine AF ?_;go_step|fail)
    go_roundg (gk-1)
    case measure=>omega
    case rel=>exact ⟨j+1,M+N,_,_,by omega,HFk.out.symm,by go_num,rfl,by rw [HFE.out];exact hS.sub Ae⟩
   obtain rfl:j=k:=by omega
   repeat' (first
    | refine X0 ?_|refine X2 28 ?_|refine AF ?_;go_step|fail)
   repeat' (first
    | refine AF ?_;go_step|fail)
   go_ret
   rw [←hM]
   exact ⟨aa,ca,rfl,hS⟩
end Go.Proofs.YtngojkompmcceaaGreatDoor
namespace Go.Proofs.YtngojkompmcceaaGreatDoor
attribute [local irreducible] Region.wanted
set_option linter.unusedVariables false
set_option maxRecDepth 100000
set_option maxHeartbeats 8000000
abbrev Pk:=Int×List Int
def B3(l:List Pk):Int:=(l.map (·.1)).sum
def Bi(l:List Pk):List Int:=l.flatMap (·.2)
theorem MU:B3 []=0:=rfl
theorem Az(x:Pk)(l:List Pk):B3 (x::l)=x.1+B3 l:=by simp [B3]
theorem Im(a b:List Pk):B3 (a++b)=B3 a+B3 b:=by simp [B3]
theorem K5{a b:List Pk}(h:a.Perm b):B3 a=B3 b:=by
 induction h with
 | nil=>rfl
 | cons x _ ih=>simp [Az,ih]
 | swap x y l=>simp only [Az];omega
 | trans _ _ h1 h2=>rw [h1,h2]
theorem CT(x:Pk)(l:List Pk):Bi (x::l)=x.2++Bi l:=by simp [Bi]
theorem BC(a b:List Pk):Bi (a++b)=Bi a++Bi b:=by simp [Bi]
theorem Cs{a b:List Pk}(h:a.Perm b):(Bi a).Perm (Bi b):=h.flatMap_right _
def Mu(l:List Pk):Prop:=l.Pairwise (fun a b=>a.1≤b.1)
def Bb(p:Pk×Pk):Pk:=(p.1.1+p.2.1,p.1.2++p.2.2)
def F3:List Pk→List (Pk×Pk)
 | a::b::l=>(a,b)::F3 l
 | _=>[]
def Ce(l:List (Pk×Pk)):List Pk:=l.flatMap fun p=>[p.1,p.2]
def CX(l:List Pk):List Pk:=(F3 l).map Bb
theorem Bw:∀(l:List Pk),∃z,Ce (F3 l)++z=l∧z.length≤1
 | []=>⟨[],rfl,by simp⟩
 | [a]=>⟨[a],rfl,by simp⟩
 | a::b::l=>by
   obtain ⟨z,h,hz⟩:=Bw l
   exact ⟨z,by simp [F3,Ce] at h⊢;exact h,hz⟩
theorem Js(l:List (Pk×Pk)):(Ce l).length=2*l.length:=by
 induction l with
 | nil=>rfl
 | cons x l ih=>simp [Ce] at ih⊢;omega
theorem Nb(l:List Pk):(F3 l).length=l.length/2:=by
 obtain ⟨z,h,hz⟩:=Bw l
 have:=congrArg List.length h
 rw [List.length_append,Js] at this
 omega
theorem DY(l:List Pk):(CX l).length=l.length/2:=by simp [CX,Nb]
theorem K4(l:List (Pk×Pk)):B3 (l.map Bb)=B3 (Ce l):=by
 induction l with
 | nil=>rfl
 | cons x l ih=>simp only [List.map_cons,Az,ih,Bb,Ce,List.flatMap_cons,List.cons_append,List.nil_append];simp only [Ce] at*;omega
theorem Fl(l:List (Pk×Pk)):Bi (l.map Bb)=Bi (Ce l):=by
 induction l with
 | nil=>rfl
 | cons x l ih=>simp only [List.map_cons,CT,ih,Bb,Ce,List.flatMap_cons,List.cons_append,List.nil_append,List.append_assoc]
theorem Ek{α β:Type}(f:α→β){L L0:List β}(h:L.Perm L0):∀M:List α,M.map f=L0→∃M':List α,M'.Perm M∧M'.map f=L:=by
 induction h with
 | nil=>intro M e;exact ⟨[],(by cases M with|nil=>exact List.Perm.refl _|cons=>cases e),rfl⟩
 | cons x _ ih=>
   intro M e
   cases M with
   | nil=>cases e
   | cons m M=>
     simp only [List.map_cons,List.cons.injEq] at e
     obtain ⟨M',h1,h2⟩:=ih M e.2
     exact ⟨m::M',h1.cons m,by simp [e.1,h2]⟩
 | swap x y l=>
   intro M e
   match M,e with
   | m1::m2::M,e=>
     simp only [List.map_cons,List.cons.injEq] at e
     exact ⟨m2::m1::M,List.Perm.swap _ _ _,by simp [e.1,e.2.1,e.2.2]⟩
 | trans _ _ h1 h2=>
   intro M e
   obtain ⟨M1,p1,e1⟩:=h2 M e
   obtain ⟨M2,p2,e2⟩:=h1 M1 e1
   exact ⟨M2,p2.trans p1,e2⟩
def Ai(X R:List Pk):Prop:=∃Z,(X++Z).Perm R
theorem Ai.take(R:List Pk)(m:Nat):Ai (R.take m) R:=⟨R.drop m,by rw [List.take_append_drop]⟩
theorem Ai.right{X R Q:List Pk}(h:Ai X R)(p:R.Perm Q):Ai X Q:=by
 obtain ⟨Z,hz⟩:=h;exact ⟨Z,hz.trans p⟩
theorem Ai.app{X Y R Q:List Pk}(h:Ai X R)(k:Ai Y Q):Ai (X++Y) (R++Q):=by
 obtain ⟨Z,hz⟩:=h;obtain ⟨U,hu⟩:=k
 refine ⟨Z++U,List.Perm.trans ?_ (hz.append hu)⟩
 rw [List.append_assoc,List.append_assoc]
 refine List.Perm.append_left X ?_
 rw [←List.append_assoc,←List.append_assoc]
 exact List.Perm.append_right U List.perm_append_comm
theorem Ai.mem{X R:List Pk}(h:Ai X R){x:Pk}(hx:x∈X):x∈R:=by
 obtain ⟨Z,hz⟩:=h;exact hz.mem_iff.1 (List.mem_append_left _ hx)
theorem Ai.len{X R:List Pk}(h:Ai X R):X.length≤R.length:=by
 obtain ⟨Z,hz⟩:=h;have:=hz.length_eq;rw [List.length_append] at this;omega
theorem Ai.unpair{B R:List Pk}(h:Ai B (CX R)):∃Y,Ai Y R∧Y.length=2*B.length∧Bi Y=Bi B∧B3 Y=B3 B∧∃B',B'.map Bb=B∧Y=Ce B':=by
 obtain ⟨Z,hz⟩:=h
 obtain ⟨M,hp,hm⟩:=Ek Bb hz (F3 R) rfl
 obtain ⟨B',Z',e,hb,hz'⟩:=List.map_eq_append_iff.1 hm
 obtain ⟨z,hu,_⟩:=Bw R
 refine ⟨Ce B',⟨Ce Z'++z,?_⟩,by rw [Js,←hb,List.length_map],by rw [←hb,Fl],by rw [←hb,K4],B',hb,rfl⟩
 have h1:(Ce M).Perm (Ce (F3 R)):=hp.flatMap_right _
 have h2:Ce M=Ce B'++Ce Z':=by rw [e];simp [Ce]
 rw [←List.append_assoc,←h2]
 conv=>rhs;rw [←hu]
 exact h1.append_right z
theorem Fm:∀(R:List Pk),Mu R→(∀x∈R,0≤x.1)→∀(X:List Pk)(m:Nat),Ai X R→m≤X.length→B3 (R.take m)≤B3 X:=by
 have nn:∀X:List Pk,(∀x∈X,0≤x.1)→0≤B3 X:=fun X h=>by
  induction X with
  | nil=>simp [B3]
  | cons x X ih=>rw [Az];have:=h x (by simp);have:=ih fun y hy=>h y (by simp [hy]);omega
 intro R
 induction R with
 | nil=>
   intro _ _ X m hX _
   have:X=[]:=by have:=hX.len;exact List.eq_nil_of_length_eq_zero (by simpa using this)
   subst this;simp [B3]
 | cons r R ih=>
   intro hs h0 X m hX hm
   cases m with
   | zero=>simp only [List.take_zero,MU];exact nn X fun x hx=>h0 x (hX.mem hx)
   | succ m=>
     obtain ⟨hr,hs'⟩:=List.pairwise_cons.1 hs
     rw [List.take_succ_cons,Az]
     obtain ⟨Z,hz⟩:=hX
     have hrm:r∈X++Z:=hz.mem_iff.2 (by simp)
     rcases List.mem_append.1 hrm with hx|hx
     ·have p:=List.perm_cons_erase hx
      have hz2:(X.erase r++Z).Perm R:=by
       have:(r::(X.erase r++Z)).Perm (r::R):=(p.symm.append_right Z).trans hz
       exact this.cons_inv
      have hl:=p.length_eq
      rw [List.length_cons] at hl
      have:=ih hs' (fun x hx=>h0 x (by simp [hx])) (X.erase r) m ⟨Z,hz2⟩ (by omega)
      rw [K5 p,Az];omega
     cases X with
     | nil=>simp at hm
     | cons x X=>
       have p:=List.perm_cons_erase hx
       have hz2:(X++(x::Z.erase r)).Perm R:=by
        have h1:(r::(X++(x::Z.erase r))).Perm (r::R):=by
         refine List.Perm.trans ?_ hz
         have a1:(X++x::Z.erase r).Perm (x::(X++Z.erase r)):=List.perm_middle
         have a2:(r::(X++x::Z.erase r)).Perm (r::x::(X++Z.erase r)):=a1.cons r
         refine a2.trans ((List.Perm.swap x r _).trans ?_)
         refine List.Perm.cons x ?_
         have a3:(r::(X++Z.erase r)).Perm (X++r::Z.erase r):=List.perm_middle.symm
         exact a3.trans (List.Perm.append_left X p.symm)
        exact h1.cons_inv
       have hxr:r.1≤x.1:=by
        have:x∈r::R:=hz.mem_iff.1 (by simp)
        rcases List.mem_cons.1 this with e|e
        ·rw [e];exact Int.le_refl _
        exact hr x e
       have:=ih hs' (fun x hx=>h0 x (by simp [hx])) X m ⟨_,hz2⟩ (by simp at hm;omega)
       rw [Az];omega
inductive BO(S:List Pk):Nat→List Pk→Prop
 | one (R:List Pk) (p:R.Perm S) (s:Mu R):BO S 1 R
 | more {k:Nat} {R Q:List Pk} (h:BO S k R) (p:Q.Perm (CX R++S)) (s:Mu Q):BO S (k+1) Q
theorem BO.srt{S R:List Pk}{k:Nat}(h:BO S k R):Mu R:=by cases h<;>assumption
theorem BO.nonneg{S R:List Pk}{k:Nat}(h0:∀x∈S,0≤x.1)(h:BO S k R):∀x∈R,0≤x.1:=by
 induction h with
 | one R p _=>exact fun x hx=>h0 x (p.mem_iff.1 hx)
 | @more k R Q h p _ ih=>
   intro x hx
   rcases List.mem_append.1 (p.mem_iff.1 hx) with hx|hx
   ·obtain ⟨q,hq,rfl⟩:=List.mem_map.1 hx
    obtain ⟨z,hu,_⟩:=Bw R
    have hm:∀y∈Ce (F3 R),y∈R:=fun y hy=>by rw [←hu];exact List.mem_append_left _ hy
    have h1:=ih q.1 (hm _ (by simp only [Ce,List.mem_flatMap];exact ⟨q,hq,by simp⟩))
    have h2:=ih q.2 (hm _ (by simp only [Ce,List.mem_flatMap];exact ⟨q,hq,by simp⟩))
    simp only [Bb];omega
   exact h0 x hx
theorem BO.len{S R:List Pk}{k:Nat}(h:BO S k R):R.length≤2*S.length:=by
 induction h with
 | one R p _=>have:=p.length_eq;omega
 | more h p _ ih=>have:=p.length_eq;rw [List.length_append,DY] at this;omega
theorem BO.long{S R:List Pk}{k:Nat}(h:BO S k R)(_h1:1≤S.length):2*S.length≤R.length+1+S.length/2^(k-1):=by
 induction h with
 | one R p _=>have:=p.length_eq;simp;omega
 | @more k R Q h p _ ih=>
   have:=p.length_eq;rw [List.length_append,DY] at this
   have hk:1≤k:=by cases h<;>omega
   have e:S.length/2^(k+1-1)=S.length/2^(k-1)/2:=by
    rw [Nat.div_div_eq_div_mul,←Nat.pow_succ,show (k-1).succ=k+1-1 by omega]
   rw [e];omega
def AQ{α:Type}(f:α→Nat)(l:List α):Nat:=(l.map f).sum
theorem AU{α:Type}(f:α→Nat)(x:α)(l:List α):AQ f (x::l)=f x+AQ f l:=by simp [AQ]
theorem EJ{α:Type}(f g:α→Nat)(l:List α):AQ (fun x=>f x+g x) l=AQ f l+AQ g l:=by
 induction l with
 | nil=>rfl
 | cons x l ih=>simp only [AU,ih];omega
theorem NU{α:Type}(f g:α→Nat)(l:List α)(h:∀x∈l,f x≤g x):AQ f l≤AQ g l:=by
 induction l with
 | nil=>exact Nat.le_refl _
 | cons x l ih=>have:=h x (by simp);have:=ih fun y hy=>h y (by simp [hy]);simp only [AU];omega
theorem BK{α:Type}(f g:α→Nat)(l:List α)(h:∀x∈l,f x=g x):AQ f l=AQ g l:=by
 induction l with
 | nil=>rfl
 | cons x l ih=>have:=h x (by simp);have:=ih fun y hy=>h y (by simp [hy]);simp only [AU];omega
theorem EL{α:Type}(f:α→Nat)(c:Nat)(l:List α):AQ (fun x=>f x*c) l=AQ f l*c:=by
 induction l with
 | nil=>simp [AQ]
 | cons x l ih=>simp only [AU,ih,Nat.add_mul]
theorem L4{α:Type}(p:α→Bool)(l:List α):AQ (fun x=>if p x then 1 else 0) l=(l.filter p).length:=by
 induction l with
 | nil=>rfl
 | cons x l ih=>rw [AU,ih,List.filter_cons];by_cases h:p x=true<;>simp [h];omega
theorem GV{α:Type}(f:α→Nat)(l:List α)(h:∀x∈l,f x=0):AQ f l=0:=by
 induction l with
 | nil=>rfl
 | cons x l ih=>have:=h x (by simp);have:=ih fun y hy=>h y (by simp [hy]);simp only [AU];omega
def CO(X:List Pk)(s:Int):Nat:=(Bi X).count s
structure Ef(S:List Pk)(ss:List Int):Prop where
 syms:S.map (·.2)=ss.map fun s=>[s]
 nd:ss.Nodup
theorem Ef.len{S:List Pk}{ss:List Int}(h:Ef S ss):S.length=ss.length:=by
 have:=congrArg List.length h.syms;simpa using this
theorem Ef.one{S:List Pk}{ss:List Int}(h:Ef S ss):∀x∈S,∃s∈ss,x.2=[s]:=fun x hx=>by
 have:x.2∈S.map (·.2):=List.mem_map.2 ⟨x,hx,rfl⟩
 rw [h.syms] at this
 obtain ⟨s,hs,e⟩:=List.mem_map.1 this
 exact ⟨s,hs,e.symm⟩
theorem Ef.syls{S:List Pk}{ss:List Int}(h:Ef S ss):Bi S=ss:=by
 have:Bi S=(S.map (·.2)).flatten:=by simp [Bi,List.flatMap]
 rw [this,h.syms]
 clear h this
 induction ss with
 | nil=>rfl
 | cons a l ih=>rw [List.map_cons,List.flatten_cons,ih];rfl
theorem BO.pos{S R:List Pk}{k:Nat}{ss:List Int}(hS:Ef S ss)(h:BO S k R):∀x∈R,1≤x.2.length:=by
 induction h with
 | one R p _=>intro x hx;obtain ⟨s,_,e⟩:=hS.one x (p.mem_iff.1 hx);rw [e];simp
 | @more k R Q h p _ ih=>
   intro x hx
   rcases List.mem_append.1 (p.mem_iff.1 hx) with hx|hx
   ·obtain ⟨q,hq,rfl⟩:=List.mem_map.1 hx
    obtain ⟨z,hu,_⟩:=Bw R
    have h1:=ih q.1 (by rw [←hu];exact List.mem_append_left _ (by simp only [Ce,List.mem_flatMap];exact ⟨q,hq,by simp⟩))
    simp only [Bb,List.length_append];omega
   obtain ⟨s,_,e⟩:=hS.one x hx;rw [e];simp
theorem Ai.parts{S R Q X:List Pk}{k:Nat}{ss:List Int}(hS:Ef S ss)(h:BO S k R)(p:Q.Perm (CX R++S))(hX:Ai X Q):
 ∃B A,Ai B (CX R)∧Ai A S∧X.Perm (B++A):=by
 obtain ⟨Z,hz⟩:=hX
 have hz:=hz.trans p
 have hpos:=h.pos hS
 have h1:∀x∈CX R,decide (2≤x.2.length)=true:=fun x hx=>by
  obtain ⟨q,hq,rfl⟩:=List.mem_map.1 hx
  obtain ⟨z,hu,_⟩:=Bw R
  have e1:=hpos q.1 (by rw [←hu];exact List.mem_append_left _ (by simp only [Ce,List.mem_flatMap];exact ⟨q,hq,by simp⟩))
  have e2:=hpos q.2 (by rw [←hu];exact List.mem_append_left _ (by simp only [Ce,List.mem_flatMap];exact ⟨q,hq,by simp⟩))
  simp only [Bb,List.length_append,decide_eq_true_eq];omega
 have h2:∀x∈S,decide (2≤x.2.length)=false:=fun x hx=>by obtain ⟨s,_,e⟩:=hS.one x hx;rw [e];simp
 have f1:=hz.filter (fun x=>decide (2≤x.2.length))
 have f2:=hz.filter (fun x=>!decide (2≤x.2.length))
 rw [List.filter_append,List.filter_append,List.filter_eq_self.2 h1,(List.filter_eq_nil_iff (l:=S)).2 (fun x hx=>by rw [h2 x hx];simp),List.append_nil] at f1
 rw [List.filter_append,List.filter_append,(List.filter_eq_nil_iff (l:=CX R)).2 (fun x hx=>by rw [h1 x hx];simp),(List.filter_eq_self (l:=S)).2 (fun x hx=>by rw [h2 x hx];rfl),List.nil_append] at f2
 exact ⟨_,_,⟨_,f1⟩,⟨_,f2⟩,(List.filter_append_perm _ X).symm⟩
theorem Jl(X Y:List Pk)(s:Int):CO (X++Y) s=CO X s+CO Y s:=by simp [CO,BC]
theorem IO{X Y:List Pk}(h:X.Perm Y)(s:Int):CO X s=CO Y s:=(Cs h).count_eq s
theorem Ai.single{A S:List Pk}{ss:List Int}(hS:Ef S ss)(h:Ai A S):(Bi A).Nodup∧(Bi A).length=A.length∧∀s∈Bi A,s∈ss:=by
 obtain ⟨Z,hz⟩:=h
 have hp:(Bi A++Bi Z).Perm ss:=by rw [←BC,←hS.syls];exact Cs hz
 refine ⟨(List.nodup_append.1 (hp.nodup_iff.2 hS.nd)).1,?_,fun s hs=>hp.mem_iff.1 (List.mem_append_left _ hs)⟩
 have:∀x∈A,x.2.length=1:=fun x hx=>by
  obtain ⟨s,_,e⟩:=hS.one x (hz.mem_iff.1 (List.mem_append_left _ hx));rw [e];rfl
 clear hp hz
 induction A with
 | nil=>rfl
 | cons x A ih=>rw [CT,List.length_append,this x (by simp),ih fun y hy=>this y (by simp [hy]),List.length_cons];omega
theorem Ho(k:Nat)(h:1≤k):2^k=2*2^(k-1):=by
 cases k with
 | zero=>omega
 | succ k=>rw [Nat.pow_succ,Nat.add_sub_cancel];omega
theorem BO.kraft{S R:List Pk}{k:Nat}{ss:List Int}(hS:Ef S ss)(h:BO S k R):∀X,Ai X R→
 (∀s,CO X s≤k)∧X.length*2^(k-1)≤AQ (fun s=>2^k-2^(k-CO X s)) ss∧(∀s∈Bi X,s∈ss):=by
 have sums:∀(L:List Int),L.Nodup→(∀s∈L,s∈ss)→AQ (fun s=>L.count s) ss=L.length:=by
  intro L
  induction L with
  | nil=>intro _ _;exact GV _ _ fun s _=>rfl
  | cons x L ih=>
    intro hn hm
    obtain ⟨h1,h2⟩:=List.nodup_cons.1 hn
    have:=ih h2 fun s hs=>hm s (by simp [hs])
    have e:AQ (fun s=>(x::L).count s) ss=AQ (fun s=>L.count s) ss+AQ (fun s=>if s=x then 1 else 0) ss:=by
     rw [←EJ]
     refine BK _ _ _ fun s _=>?_
     rw [List.count_cons];by_cases h:s=x
     ·subst h;simp
     have:(x==s)=false:=by simp;exact fun e=>h e.symm
     simp [h,this]
    have e2:AQ (fun s=>if s=x then 1 else 0) ss=1:=by
     have hx:=hm x (by simp)
     have e3:AQ (fun s=>if s=x then 1 else 0) ss=ss.count x:=by
      clear e this ih h1 h2 hn hm hx h hS
      induction ss with
      | nil=>rfl
      | cons a l ih=>rw [AU,ih,List.count_cons];by_cases h:a=x<;>simp [h];omega
     rw [e3]
     have a1:=List.nodup_iff_count.1 hS.nd x
     have a2:=List.count_pos_iff.2 hx
     omega
    rw [e,e2,this,List.length_cons]
 induction h with
 | one R p _=>
   intro X hX
   obtain ⟨h1,h2,h3⟩:=(hX.right p).single hS
   have hle:∀s,CO X s≤1:=fun s=>List.nodup_iff_count.1 h1 s
   refine ⟨hle,?_,h3⟩
   have:=sums _ h1 h3
   have e:AQ (fun s=>2^1-2^(1-CO X s)) ss=AQ (fun s=>(Bi X).count s) ss:=BK _ _ _ fun s _=>by
    have:=hle s
    have e:CO X s=(Bi X).count s:=rfl
    rcases Nat.lt_or_ge (CO X s) 1 with h|h
    ·rw [←e,show CO X s=0 by omega]
    rw [←e,show CO X s=1 by omega]
   rw [e,this,h2];simp
 | @more k R Q h p _ ih=>
   intro X hX
   obtain ⟨B,A,hB,hA,hp⟩:=Ai.parts hS h p hX
   obtain ⟨Y,hY,hYl,hYs,_,_⟩:=hB.unpair
   obtain ⟨i1,i2,i3⟩:=ih Y hY
   obtain ⟨a1,a2,a3⟩:=hA.single hS
   have hk:1≤k:=by cases h<;>omega
   have hlx:∀s,CO X s=CO Y s+(Bi A).count s:=fun s=>by rw [IO hp,Jl];simp only [CO,hYs]
   have ha:∀s,(Bi A).count s≤1:=fun s=>List.nodup_iff_count.1 a1 s
   refine ⟨fun s=>by rw [hlx];have:=i1 s;have:=ha s;omega,?_,fun s hs=>?_⟩
   ·have hs:=sums _ a1 a3
    rw [a2] at hs
    have key:AQ (fun s=>(Bi A).count s*2^k+(2^k-2^(k-CO Y s))) ss≤AQ (fun s=>2^(k+1)-2^(k+1-CO X s)) ss:=by
     refine NU _ _ _ fun s _=>?_
     rw [hlx]
     have h1:=i1 s
     have h2:=ha s
     have e1:2^(k+1)=2*2^k:=by rw [Nat.pow_succ];omega
     have e3:2^(k-CO Y s)≤2^k:=Nat.pow_le_pow_right (by omega) (by omega)
     rcases Nat.lt_or_ge ((Bi A).count s) 1 with h|h
     ·rw [show (Bi A).count s=0 by omega,Nat.zero_mul,Nat.zero_add,Nat.add_zero (CO Y s),e1]
      have e2:2^(k+1-CO Y s)=2*2^(k-CO Y s):=by rw [show k+1-CO Y s=(k-CO Y s)+1 by omega,Nat.pow_succ];omega
      rw [e2];omega
     rw [show (Bi A).count s=1 by omega,Nat.one_mul,e1,show k+1-(CO Y s+1)=k-CO Y s by omega]
     omega
    rw [EJ,EL,hs] at key
    have hl:=hp.length_eq
    rw [List.length_append] at hl
    have e4:=Ho k hk
    rw [hl,Nat.add_sub_cancel,Nat.add_mul]
    rw [hYl] at i2
    have e5:B.length*2^k=2*B.length*2^(k-1):=by rw [e4,←Nat.mul_assoc];congr 1;omega
    omega
   have:=(Cs hp).mem_iff.1 hs
   rw [BC,List.mem_append] at this
   rcases this with h|h
   ·exact i3 s (hYs▸ h)
   exact a3 s h
def isum{α:Type}(f:α→Int)(l:List α):Int:=(l.map f).sum
theorem A8{α:Type}(f:α→Int)(x:α)(l:List α):isum f (x::l)=f x+isum f l:=by simp [isum]
theorem Lj{α:Type}(f g:α→Int)(l:List α):isum (fun x=>f x+g x) l=isum f l+isum g l:=by
 induction l with
 | nil=>rfl
 | cons x l ih=>simp only [A8,ih];omega
theorem CN{α:Type}(f g:α→Int)(l:List α)(h:∀x∈l,f x=g x):isum f l=isum g l:=by
 induction l with
 | nil=>rfl
 | cons x l ih=>have:=h x (by simp);have:=ih fun y hy=>h y (by simp [hy]);simp only [A8];omega
theorem Ej{α:Type}(f:α→Int)(l:List α)(h:∀x∈l,f x=0):isum f l=0:=by
 induction l with
 | nil=>rfl
 | cons x l ih=>have:=h x (by simp);have:=ih fun y hy=>h y (by simp [hy]);simp only [A8];omega
theorem Ka{α:Type}(f:α→Nat){l m:List α}(h:l.Perm m):AQ f l=AQ f m:=by
 induction h with
 | nil=>rfl
 | cons x _ ih=>simp [AU,ih]
 | swap x y l=>simp only [AU];omega
 | trans _ _ h1 h2=>rw [h1,h2]
theorem DP{α:Type}(f:α→Int)(l m:List α):isum f (l++m)=isum f l+isum f m:=by simp [isum]
theorem DR{α:Type}(f:α→Nat)(l m:List α):AQ f (l++m)=AQ f l+AQ f m:=by simp [AQ]
theorem BO.weigh{S R:List Pk}{k:Nat}(w:Int→Int)(hw:∀x∈S,x.1=isum w x.2)(h:BO S k R):∀x∈R,x.1=isum w x.2:=by
 induction h with
 | one R p _=>exact fun x hx=>hw x (p.mem_iff.1 hx)
 | @more k R Q h p _ ih=>
   intro x hx
   rcases List.mem_append.1 (p.mem_iff.1 hx) with hx|hx
   ·obtain ⟨q,hq,rfl⟩:=List.mem_map.1 hx
    obtain ⟨z,hu,_⟩:=Bw R
    have h1:=ih q.1 (by rw [←hu];exact List.mem_append_left _ (by simp only [Ce,List.mem_flatMap];exact ⟨q,hq,by simp⟩))
    have h2:=ih q.2 (by rw [←hu];exact List.mem_append_left _ (by simp only [Ce,List.mem_flatMap];exact ⟨q,hq,by simp⟩))
    simp only [Bb,DP];omega
   exact hw x hx
theorem In(w:Int→Int):∀(X:List Pk),(∀x∈X,x.1=isum w x.2)→B3 X=isum w (Bi X)
 | [],_=>rfl
 | x::X,h=>by rw [Az,CT,DP,h x (by simp),In w X fun y hy=>h y (by simp [hy])]
theorem FV(w:Int→Int)(ss:List Int)(hn:ss.Nodup):∀(L:List Int),(∀s∈L,s∈ss)→isum w L=isum (fun s=>w s*(L.count s:Nat)) ss
 | [],_=>(Ej _ _ fun s _=>by simp).symm
 | x::L,h=>by
   rw [A8,FV w ss hn L fun s hs=>h s (by simp [hs])]
   have e:isum (fun s=>w s*((x::L).count s:Nat)) ss=isum (fun s=>w s*(L.count s:Nat)) ss+isum (fun s=>if s=x then w s else 0) ss:=by
    rw [←Lj]
    refine CN _ _ _ fun s _=>?_
    rw [List.count_cons];by_cases h:s=x
    ·subst h;simp [Int.mul_add]
    have:(x==s)=false:=by simp;exact fun e=>h e.symm
    simp [h,this]
   have hx:=h x (by simp)
   have e2:isum (fun s=>if s=x then w s else 0) ss=w x:=by
    clear e h
    induction ss with
    | nil=>cases hx
    | cons a l ih=>
      obtain ⟨h1,h2⟩:=List.nodup_cons.1 hn
      rw [A8]
      by_cases ha:a=x
      ·subst ha
       rw [if_pos rfl,Ej _ l fun s hs=>by rw [if_neg];intro e;exact h1 (e▸ hs)];omega
      rw [if_neg ha,ih h2 ((List.mem_cons.1 hx).resolve_left (fun e=>ha e.symm))];omega
   rw [e,e2];omega
def fN(K l:Nat):Nat→Nat
 | 0=>0
 | k+1=>fN K l k+(if K≤l+k then 2^k else 0)
def fC(K l:Nat):Nat→Nat
 | 0=>0
 | k+1=>fC K l k+(if K≤l+k then 1 else 0)
theorem PC(l:Nat)(h:l≤16):fN 16 l 16+2^(16-l)=2^16:=by
 have:∀l,l<17→fN 16 l 16+2^(16-l)=2^16:=by decide
 exact this l (by omega)
theorem PB(l:Nat)(h:l≤16):fC 16 l 16=l:=by
 have:∀l,l<17→fC 16 l 16=l:=by decide
 exact this l (by omega)
theorem Ff:∀(R:List Pk)(t:Nat),2*t≤R.length→B3 ((CX R).take t)=B3 (R.take (2*t))
 | _,0,_=>by simp
 | a::b::l,t+1,h=>by
   have ih:=Ff l t (by simp at h;omega)
   rw [show 2*(t+1)=2*t+1+1 by omega,List.take_succ_cons,List.take_succ_cons,Az,Az,←ih]
   simp only [CX,F3,List.map_cons,List.take_succ_cons,Az,Bb];omega
 | [a],t+1,h=>by simp at h;omega
 | [],t+1,h=>by simp at h
theorem BO.lower{S R:List Pk}{k:Nat}(K:Nat)(len:Pk→Nat)(h0:∀x∈S,0≤x.1)(h:BO S k R):
 ∃X,Ai X R∧X.length=AQ (fun x=>fN K (len x) k) S/2^(k-1)∧B3 X≤isum (fun x=>x.1*(fC K (len x) k:Nat)) S:=by
 have sel:∀k,AQ (fun x=>fN K (len x) (k+1)) S=AQ (fun x=>fN K (len x) k) S+(S.filter fun x=>decide (K≤len x+k)).length*2^k∧
  isum (fun x=>x.1*(fC K (len x) (k+1):Nat)) S=isum (fun x=>x.1*(fC K (len x) k:Nat)) S+B3 (S.filter fun x=>decide (K≤len x+k)):=fun k=>by
  clear h h0
  induction S with
  | nil=>exact ⟨by simp [AQ],by simp [isum,B3]⟩
  | cons x S ih=>
    simp only [AU,A8,List.filter_cons]
    rw [ih.1,ih.2]
    by_cases hx:K≤len x+k
    ·simp only [fN,fC,hx,if_true,decide_true,List.length_cons,Az,Nat.add_mul,Nat.one_mul]
     refine ⟨by omega,?_⟩
     push_cast;rw [Int.mul_add];omega
    simp only [fN,fC,hx,if_false,decide_false,Bool.false_eq_true]
    exact ⟨by omega,by simp;omega⟩
 have filt:∀k,Ai (S.filter fun x=>decide (K≤len x+k)) S:=fun k=>⟨_,List.filter_append_perm _ S⟩
 induction h with
 | one R p _=>
   refine ⟨_,(filt 0).right p.symm,?_,?_⟩
   ·rw [(sel 0).1,GV (fun x=>fN K (len x) 0) S fun _ _=>rfl];simp
   rw [(sel 0).2,Ej (fun x=>x.1*(fC K (len x) 0:Nat)) S fun _ _=>by simp [fC]];omega
 | @more k R Q h p _ ih=>
   obtain ⟨X,hX,hl,hw⟩:=ih
   have hk:1≤k:=by cases h<;>omega
   have ht:=hX.len
   refine ⟨_,((Ai.take (CX R) (X.length/2)).app (filt k)).right p.symm,?_,?_⟩
   ·rw [(sel k).1,List.length_append,List.length_take,DY,Nat.min_eq_left (by omega),Nat.add_sub_cancel,Nat.add_mul_div_right _ _ (Nat.two_pow_pos k),hl,Nat.div_div_eq_div_mul,←Nat.pow_succ,show (k-1).succ=k by omega]
   rw [(sel k).2,Im,Ff R _ (by omega)]
   have:=Fm R h.srt (h.nonneg h0) X (2*(X.length/2)) hX (by omega)
   omega
theorem EO{R:List Pk}{q:Pk×Pk}(h:q∈F3 R):q.1∈R∧q.2∈R:=by
 obtain ⟨z,hu,_⟩:=Bw R
 exact ⟨by rw [←hu];exact List.mem_append_left _ (by simp only [Ce,List.mem_flatMap];exact ⟨q,h,by simp⟩),by rw [←hu];exact List.mem_append_left _ (by simp only [Ce,List.mem_flatMap];exact ⟨q,h,by simp⟩)⟩
theorem Jo:∀(R:List Pk),Mu R→(F3 R).Pairwise (fun q p=>q.2.1≤p.1.1)∧∀q∈F3 R,q.1.1≤q.2.1
 | [],_=>⟨List.Pairwise.nil,fun q h=>by cases h⟩
 | [a],_=>⟨List.Pairwise.nil,fun q h=>by cases h⟩
 | a::b::l,h=>by
   obtain ⟨h1,h2⟩:=List.pairwise_cons.1 h
   obtain ⟨h3,h4⟩:=List.pairwise_cons.1 h2
   obtain ⟨i1,i2⟩:=Jo l h4
   refine ⟨List.pairwise_cons.2 ⟨fun q hq=>h3 _ (EO hq).1,i1⟩,fun q hq=>?_⟩
   rcases List.mem_cons.1 hq with rfl|hq
   ·exact h1 _ (by simp)
   exact i2 q hq
def Ov(C Z R:List Pk):Prop:=(C++Z).Perm R∧∀p∈C,∀q∈Z,p.1≤q.1
theorem Ov.take{R:List Pk}(h:Mu R)(m:Nat):Ov (R.take m) (R.drop m) R:=
 ⟨by rw [List.take_append_drop],fun p hp q hq=>by
  have:(R.take m++R.drop m).Pairwise (fun a b=>a.1≤b.1):=by rw [List.take_append_drop];exact h
  exact (List.pairwise_append.1 this).2.2 p hp q hq⟩
theorem L9:∀(R:List Pk),Mu R→∀z,Ce (F3 R)++z=R→∀y∈z,∀x∈Ce (F3 R),x.1≤y.1:=fun R h z e y hy x hx=>by
 have:(Ce (F3 R)++z).Pairwise (fun a b=>a.1≤b.1):=by rw [e];exact h
 exact (List.pairwise_append.1 this).2.2 x hx y hy
theorem BO.order{S R:List Pk}{k:Nat}{ss:List Int}(hS:Ef S ss)(w:Int→Int)(hw:∀x∈S,x.1=isum w x.2)(h:BO S k R){a b:Int}(hb:b∈ss)(hab:w b<w a):
 ∀C Z,Ov C Z R→CO C a≤CO C b:=by
 have single:∀C Z,(C++Z).Perm S→(∀p∈C,∀q∈Z,p.1≤q.1)→(Bi C).count a≤(Bi C).count b:=by
  intro C Z hp hl
  have hsp:(Bi C++Bi Z).Perm ss:=by rw [←BC,←hS.syls];exact Cs hp
  have hn:=hsp.nodup_iff.2 hS.nd
  have h1:(Bi C).count a≤1:=List.nodup_iff_count.1 (List.nodup_append.1 hn).1 a
  by_cases ha:a∈Bi C
  ·have hbm:=hsp.mem_iff.2 hb
   rcases List.mem_append.1 hbm with hbC|hbZ
   ·have:=List.count_pos_iff.2 hbC;omega
   exfalso
   obtain ⟨x,hx,hax⟩:=List.mem_flatMap.1 ha
   obtain ⟨y,hy,hby⟩:=List.mem_flatMap.1 hbZ
   have hxS:=hp.mem_iff.1 (List.mem_append_left _ hx)
   have hyS:=hp.mem_iff.1 (List.mem_append_right _ hy)
   obtain ⟨s,_,es⟩:=hS.one x hxS
   obtain ⟨t,_,et⟩:=hS.one y hyS
   rw [es] at hax;rw [et] at hby
   simp at hax hby
   subst hax;subst hby
   have w1:=hw x hxS
   have w2:=hw y hyS
   rw [es] at w1;rw [et] at w2
   simp [isum] at w1 w2
   have:=hl x hx y hy
   omega
  rw [List.count_eq_zero.2 ha];omega
 induction h with
 | one R p _=>exact fun C Z hL=>single C Z (hL.1.trans p) hL.2
 | @more k R Q h p _ ih=>
   intro C Z hL
   obtain ⟨hp,hl⟩:=hL
   have hz:=hp.trans p
   have hpos:=h.pos hS
   have h1:∀x∈CX R,decide (2≤x.2.length)=true:=fun x hx=>by
    obtain ⟨q,hq,rfl⟩:=List.mem_map.1 hx
    have e1:=hpos q.1 (EO hq).1
    have e2:=hpos q.2 (EO hq).2
    simp only [Bb,List.length_append,decide_eq_true_eq];omega
   have h2:∀x∈S,decide (2≤x.2.length)=false:=fun x hx=>by obtain ⟨s,_,e⟩:=hS.one x hx;rw [e];simp
   have f1:=hz.filter (fun x=>decide (2≤x.2.length))
   have f2:=hz.filter (fun x=>!decide (2≤x.2.length))
   rw [List.filter_append,List.filter_append,List.filter_eq_self.2 h1,(List.filter_eq_nil_iff (l:=S)).2 (fun x hx=>by rw [h2 x hx];simp),List.append_nil] at f1
   rw [List.filter_append,List.filter_append,(List.filter_eq_nil_iff (l:=CX R)).2 (fun x hx=>by rw [h1 x hx];simp),(List.filter_eq_self (l:=S)).2 (fun x hx=>by rw [h2 x hx];rfl),List.nil_append] at f2
   have hC:=(List.filter_append_perm (fun x:Pk=>decide (2≤x.2.length)) C).symm
   obtain ⟨M,hM,hm⟩:=Ek Bb f1 (F3 R) rfl
   obtain ⟨B,B',e,hb1,hb2⟩:=List.map_eq_append_iff.1 hm
   obtain ⟨z,hu,_⟩:=Bw R
   obtain ⟨s1,s2⟩:=Jo R h.srt
   have hpw:(B++B').Pairwise (fun q p=>q.2.1≤p.1.1∨p.2.1≤q.1.1):=by
    rw [←e]
    exact (List.Perm.pairwise_iff (R:=fun (q p:Pk×Pk)=>q.2.1≤p.1.1∨p.2.1≤q.1.1) (fun hh=>hh.symm) hM).2 (s1.imp Or.inl)
   have hcross:=(List.pairwise_append.1 hpw).2.2
   have hmem:∀q,q∈B++B'→q∈F3 R:=fun q hq=>hM.mem_iff.1 (e▸ hq)
   have hlow:Ov (Ce B) (Ce B'++z) R:=by
    refine ⟨?_,?_⟩
    ·rw [←List.append_assoc]
     have h3:(Ce M).Perm (Ce (F3 R)):=hM.flatMap_right _
     have h4:Ce M=Ce B++Ce B':=by rw [e];simp [Ce]
     rw [←h4]
     conv=>rhs;rw [←hu]
     exact h3.append_right z
    intro y hy y' hy'
    simp only [Ce,List.mem_flatMap] at hy
    obtain ⟨q,hq,hyq⟩:=hy
    have hqR:=hmem q (List.mem_append_left _ hq)
    rcases List.mem_append.1 hy' with hy'|hy'
    ·simp only [Ce,List.mem_flatMap] at hy'
     obtain ⟨q',hq',hyq'⟩:=hy'
     have hqR':=hmem q' (List.mem_append_right _ hq')
     have c1:=s2 q hqR
     have c2:=s2 q' hqR'
     have c3:=hcross q hq q' hq'
     have c4:(Bb q).1≤(Bb q').1:=by
      refine hl _ ?_ _ ?_
      ·exact (List.mem_filter.1 (hb1▸ List.mem_map.2 ⟨q,hq,rfl⟩)).1
      exact (List.mem_filter.1 (hb2▸ List.mem_map.2 ⟨q',hq',rfl⟩)).1
     simp only [Bb] at c4
     simp at hyq hyq'
     rcases hyq with rfl|rfl<;>rcases hyq' with rfl|rfl<;>rcases c3 with c3|c3<;>omega
    exact L9 R h.srt z hu y' hy' y (by simp only [Ce,List.mem_flatMap];exact ⟨q,hqR,hyq⟩)
   have i1:=ih _ _ hlow
   have e1:∀s,CO C s=CO (Ce B) s+(Bi (C.filter fun x=>!decide (2≤x.2.length))).count s:=fun s=>by
    rw [IO hC,Jl];simp only [CO];rw [←hb1,Fl]
   rw [e1,e1]
   have:=single _ _ f2 fun p hp q hq=>hl p (List.mem_filter.1 hp).1 q (List.mem_filter.1 hq).1
   omega
theorem D1{α:Type}(l:List α):AQ (fun _=>1) l=l.length:=by
 induction l with
 | nil=>rfl
 | cons a l ih=>rw [AU,ih,List.length_cons];omega
theorem J5{S R:List Pk}{ss:List Int}(hS:Ef S ss)(w:Int→Int)(hw:∀x∈S,x.1=isum w x.2)(h0:∀s∈ss,0≤w s)(h1:1≤ss.length)(h2:ss.length<32768)(hR:BO S 16 R):
 2*ss.length-2≤R.length∧
 (∀s,CO (R.take (2*ss.length-2)) s≤16)∧(∀s,s∉ss→CO (R.take (2*ss.length-2)) s=0)∧
 AQ (fun s=>2^(16-CO (R.take (2*ss.length-2)) s)) ss≤2^16∧
 (∀len:Int→Nat,(∀s∈ss,len s≤16)→AQ (fun s=>2^(16-len s)) ss≤2^16→isum (fun s=>w s*(CO (R.take (2*ss.length-2)) s:Nat)) ss≤isum (fun s=>w s*(len s:Nat)) ss)∧
 (∀a b,b∈ss→w b<w a→CO (R.take (2*ss.length-2)) a≤CO (R.take (2*ss.length-2)) b):=by
 have hSl:=hS.len
 have hlong:=hR.long (by omega)
 have hd:S.length/2^(16-1)=0:=Nat.div_eq_of_lt (by omega)
 rw [hd] at hlong
 have hlen:2*ss.length-2≤R.length:=by omega
 obtain ⟨k1,k2,k3⟩:=hR.kraft hS _ (Ai.take R (2*ss.length-2))
 have h0S:∀x∈S,0≤x.1:=fun x hx=>by
  obtain ⟨s,hs,e⟩:=hS.one x hx
  have:=hw x hx;rw [e] at this;simp [isum] at this
  have:=h0 s hs;omega
 refine ⟨hlen,k1,fun s hs=>List.count_eq_zero.2 fun hm=>hs (k3 s hm),?_,?_,fun a b hb hab=>hR.order hS w hw hb hab _ _ (Ov.take hR.srt _)⟩
 ·rw [List.length_take,Nat.min_eq_left hlen] at k2
  have e:AQ (fun s=>2^16-2^(16-CO (R.take (2*ss.length-2)) s)) ss+AQ (fun s=>2^(16-CO (R.take (2*ss.length-2)) s)) ss=ss.length*2^16:=by
   rw [←EJ,BK _ (fun _=>1*2^16) ss fun s _=>?_,EL,D1]
   ·have:2^(16-CO (R.take (2*ss.length-2)) s)≤2^16:=Nat.pow_le_pow_right (by omega) (by omega)
    omega
  omega
 intro len hl hk
 obtain ⟨X,hX,hXl,hXw⟩:=hR.lower 16 (fun x=>len (x.2.headD 0)) h0S
 have conv1:AQ (fun x:Pk=>fN 16 (len (x.2.headD 0)) 16) S=AQ (fun s=>fN 16 (len s) 16) ss:=by
  have:S.map (fun x:Pk=>fN 16 (len (x.2.headD 0)) 16)=(S.map (·.2)).map fun l=>fN 16 (len (l.headD 0)) 16:=by rw [List.map_map];rfl
  simp only [AQ];rw [this,hS.syms,List.map_map];rfl
 have conv2:isum (fun x:Pk=>x.1*(fC 16 (len (x.2.headD 0)) 16:Nat)) S=isum (fun s=>w s*(len s:Nat)) ss:=by
  have e1:S.map (fun x:Pk=>x.1*(fC 16 (len (x.2.headD 0)) 16:Nat))=(S.map (·.2)).map fun l=>isum w l*(fC 16 (len (l.headD 0)) 16:Nat):=by
   rw [List.map_map];exact List.map_congr_left fun x hx=>by simp only [Function.comp];rw [hw x hx]
  simp only [isum] at e1⊢;rw [e1,hS.syms,List.map_map]
  have:=CN (fun s=>(List.map w [s]).sum*(fC 16 (len s) 16:Nat)) (fun s=>w s*(len s:Nat)) ss fun s hs=>by rw [PB _ (hl s hs)];simp
  simp only [isum] at this
  exact this
 rw [conv1] at hXl
 rw [conv2] at hXw
 have e:AQ (fun s=>fN 16 (len s) 16) ss+AQ (fun s=>2^(16-len s)) ss=ss.length*2^16:=by
  rw [←EJ,BK _ (fun _=>1*2^16) ss fun s hs=>by rw [PC _ (hl s hs),Nat.one_mul],EL,D1]
 have hm:2*ss.length-2≤X.length:=by
  rw [hXl,Nat.le_div_iff_mul_le (Nat.two_pow_pos _)]
  rw [show (2:Nat)^16=65536 from rfl] at e hk
  rw [show (16:Nat)-1=15 from rfl,show (2:Nat)^15=32768 from rfl]
  generalize AQ (fun s=>fN 16 (len s) 16) ss=A at e⊢
  generalize AQ (fun s=>2^(16-len s)) ss=B at e hk
  clear hXl hXw hX conv1 conv2 hd hlong hlen k1 k2 k3 hl
  omega
 have:=Fm R hR.srt (hR.nonneg h0S) X _ hX hm
 have wt:B3 (R.take (2*ss.length-2))=isum (fun s=>w s*(CO (R.take (2*ss.length-2)) s:Nat)) ss:=by
  rw [In w _ fun x hx=>hR.weigh w hw x (List.mem_of_mem_take hx),FV w ss hS.nd _ k3];rfl
 omega
theorem Ex{α:Type}(f:α→Nat){l:List α}{x:α}(h:x∈l):f x≤AQ f l:=by
 induction l with
 | nil=>cases h
 | cons a l ih=>rw [AU];rcases List.mem_cons.1 h with rfl|h;omega;have:=ih h;omega
theorem L5{α:Type}(f:α→Nat){l:List α}{x y:α}(hx:x∈l)(hy:y∈l)(hn:x≠y):f x+f y≤AQ f l:=by
 induction l with
 | nil=>cases hx
 | cons a l ih=>
   rw [AU]
   rcases List.mem_cons.1 hx with e1|hx<;>rcases List.mem_cons.1 hy with e2|hy
   ·exact absurd (e1.trans e2.symm) hn
   ·have:=Ex f hy;rw [e1];omega
   ·have:=Ex f hx;rw [e2];omega
   have:=ih hx hy;omega
theorem KQ{ss:List Int}{f:Int→Nat}(hk:AQ (fun s=>2^(16-f s)) ss≤2^16){a b:Int}(ha:a∈ss)(hb:b∈ss)(hab:a≠b):1≤f a:=by
 have h1:2^(16-f a)+2^(16-f b)≤AQ (fun s=>2^(16-f s)) ss:=L5 (fun s=>2^(16-f s)) ha hb hab
 rcases Nat.lt_or_ge (f a) 1 with h|h
 ·have:f a=0:=by omega
  rw [this] at h1
  have:1≤2^(16-f b):=Nat.one_le_two_pow
  omega
 exact h
end Go.Proofs.YtngojkompmcceaaGreatDoor
namespace Go.Proofs.YtngojkompmcceaaGreatDoor
attribute [local irreducible] Region.wanted
open Go.RowKit
set_option linter.unusedVariables false
set_option maxRecDepth 100000
set_option maxHeartbeats 8000000
def BU{K:Type}(enc:K→Value)(x:K×Value×Nat):MapEntry:={key:=enc x.1,val:=x.2.1,born:=x.2.2}
def AW{K:Type}[DecidableEq K](k:K):List (K×Value×Nat)→Nat→Option (Nat×Value)
 | [],_=>none
 | x::l,i=>if k=x.1 then some (i,x.2.1) else AW k l (i+1)
structure Cg{K:Type}[DecidableEq K](P:Program)(kt:TypeId)(enc:K→Value):Prop where
 check:∀(w:World)(b:Bool)(k:K),(Instr.checkKey b 10000 kt (enc k)).run P w= .ok () w
 find:∀(w:World)(k:K)(l:List (K×Value×Nat)),(Instr.findKey kt (enc k) (l.map (BU enc))).run P w= .ok (AW k l 0) w
 same:∀k,Instr.sameBits 10000 (enc k) (enc k)=true
def Du{K:Type}[DecidableEq K](enc:K→Value)(w:World)(b:Nat)(f:K→Option Value):Prop:=
 ∃(l:List (K×Value×Nat)) (clock:Nat),w.heap[b]? =some (.map (l.map (BU enc)).toArray clock)∧∀k,(AW k l 0).map (·.2)=f k
section
variable{K:Type}[DecidableEq K]{P:Program}{enc:K→Value}
theorem EH(k:K)(l:List (K×Value×Nat)):∀i,AW k l i=(AW k l 0).map fun x=>(x.1+i,x.2):=by
 induction l with
 | nil=>intro i;rfl
 | cons x l ih=>
   intro i
   simp only [AW]
   split
   ·simp
   rw [ih (i+1),ih (0+1)]
   cases AW k l 0 with
   | none=>rfl
   | some y=>simp;omega
theorem GA(k:K)(l m:List (K×Value×Nat)):∀i,AW k (l++m) i=(AW k l i).or (AW k m (i+l.length)):=by
 induction l with
 | nil=>intro i;simp [AW]
 | cons x l ih=>
   intro i
   simp only [List.cons_append,AW]
   split
   ·simp
   rw [ih,List.length_cons,show i+1+l.length=i+(l.length+1) by omega]
theorem GB(k j:K)(v:Value):∀(l:List (K×Value×Nat))(n i:Nat)(u:Value),AW k l n=some (n+i,u)→
 (AW j (l.modify i fun e=>(k,v,e.2.2)) n).map (·.2)=if j=k then some v else (AW j l n).map (·.2):=by
 intro l
 induction l with
 | nil=>intro n i u h;simp [AW] at h
 | cons x l ih=>
   intro n i u h
   simp only [AW] at h
   split at h
   ·rename_i hk
    simp only [Option.some.injEq,Prod.mk.injEq] at h
    have hi:i=0:=by omega
    subst hi
    simp only [List.modify_zero_cons,AW]
    by_cases hj:j=k
    ·simp [hj]
    have:¬j=x.1:=fun e=>hj (e.trans hk.symm)
    simp [hj,this]
   rename_i hk
   cases i with
   | zero=>
     exfalso
     rw [EH] at h
     cases hf:AW k l 0 with
     | none=>simp [hf] at h
     | some y=>simp [hf] at h;omega
   | succ i=>
     simp only [List.modify_succ_cons,AW]
     have h':AW k l (n+1)=some (n+1+i,u):=by rw [h];congr 2;omega
     split
     ·rename_i hj
      have:¬j=k:=fun e=>hk (e▸ hj)
      simp [this]
     exact ih (n+1) i u h'
theorem Du.new(w:World):Du enc (w.alloc (.map #[] 0)) w.heap.size (fun _=>none):=
 ⟨[],0,heap_alloc_new w _,fun _=>rfl⟩
theorem Du.lt{w:World}{b:Nat}{f:K→Option Value}(h:Du enc w b f):b<w.heap.size:=by
 obtain ⟨l,c,h,_⟩:=h
 exact (Array.getElem?_eq_some_iff.1 h).1
theorem Du.of_heap{w w':World}{b:Nat}{f:K→Option Value}(h:Du enc w b f)(hh:w'.heap[b]? =w.heap[b]?):Du enc w' b f:=by
 obtain ⟨l,c,h,hf⟩:=h
 exact ⟨l,c,by rw [hh];exact h,hf⟩
theorem Eo{w:World}{b:Nat}{es:Array MapEntry}{c:Nat}(h:w.heap[b]? =some (.map es c)):(getObj b:Sem Obj).run P w= .ok (.map es c) w:=by
 simp [getObj,Sem.run,h]
theorem Du.lookup{w:World}{b:Nat}{f:K→Option Value}{mt kt et:TypeId}(h:Du enc w b f)(hm:P.underlying mt=some (.map kt et))(law:Cg P kt enc)(k:K)(ok:Bool)
 {z:Value} (hz:∀w,(zeroValue et).run P w= .ok z w):
 (Instr.lookup mt (.map (some b)) (enc k) ok).run P w= .ok (if ok then .tuple #[(f k).getD z, .bool (f k).isSome] else (f k).getD z) w:=by
 obtain ⟨l,c,hb,hf⟩:=h
 have hfk:=hf k
 simp only [Instr.lookup,Sem.run_bind,run_underlying hm,Result.andThen_ok,Eo hb,Sem.run_pure,law.check,law.find]
 cases hfi:AW k l 0 with
 | none=>
   rw [hfi] at hfk
   simp only [Option.map_none] at hfk
   rw [←hfk]
   simp [hz]
 | some y=>
   rw [hfi] at hfk
   simp only [Option.map_some] at hfk
   rw [←hfk]
   simp
theorem Du.update{w:World}{b:Nat}{f:K→Option Value}{mt kt et:TypeId}(h:Du enc w b f)(hm:P.underlying mt=some (.map kt et))(law:Cg P kt enc)(k:K)(v:Value):
 ∃w',(Instr.mapUpdate mt (.map (some b)) (enc k) v).run P w= .ok () w'∧Du enc w' b (fun j=>if j=k then some v else f j)∧
  (∀W,W.heap.size≤b→AP W w→AP W w')∧∀i,i≠b→w'.heap[i]? =w.heap[i]? :=by
 obtain ⟨l,c,hb,hf⟩:=h
 have hlt:b<w.heap.size:=(Array.getElem?_eq_some_iff.1 hb).1
 have hset:∀o:Obj,(setObj b o).run P w= .ok () {w with heap:=w.heap.setIfInBounds b o}:=by
  intro o
  simp [setObj,Sem.run,hb]
 have hext:∀(o:Obj) W,W.heap.size≤b→AP W w→AP W {w with heap:=w.heap.setIfInBounds b o}:=fun o W hW hE=>
  Below.trans hE ⟨rfl,rfl,rfl,by simp,fun i hi=>by simp only [Array.getElem?_setIfInBounds];rw [if_neg (by omega)]⟩
 have hoth:∀(o:Obj) i,i≠b→({w with heap:=w.heap.setIfInBounds b o}:World).heap[i]? =w.heap[i]? :=fun o i hi=>by
  simp only [Array.getElem?_setIfInBounds];rw [if_neg (fun e=>hi e.symm)]
 have hnew:∀(o:Obj),({w with heap:=w.heap.setIfInBounds b o}:World).heap[b]? =some o:=fun o=>by
  simp [hlt]
 cases hfi:AW k l 0 with
 | none=>
   refine ⟨{w with heap:=w.heap.setIfInBounds b (.map ((l++[(k,v,c)]).map (BU enc)).toArray (c+1))},?_,⟨l++[(k,v,c)],c+1,hnew _,fun j=>?_⟩,hext _,hoth _⟩
   ·simp only [Instr.mapUpdate,Sem.run_bind,run_underlying hm,Result.andThen_ok,Eo hb,law.check,law.find,hfi]
    rw [hset]
    congr 4
    simp [BU]
   show _=if j=k then some v else f j
   rw [GA,←hf j]
   by_cases hj:j=k
   ·subst hj;simp [hfi,AW]
   cases AW j l 0<;>simp [AW,hj]
 | some y=>
   obtain ⟨i,u⟩:=y
   have hmod:=fun j=>GB k j v l 0 i u (by rw [hfi];simp)
   have hik:∃e,l[i]? =some e∧e.1=k:=by
    have:∀(l:List (K×Value×Nat)) n i u,AW k l n=some (n+i,u)→∃e,l[i]? =some e∧e.1=k:=by
     intro l
     induction l with
     | nil=>intro n i u h;simp [AW] at h
     | cons x l ih=>
       intro n i u h
       simp only [AW] at h
       split at h
       ·rename_i hk
        simp only [Option.some.injEq,Prod.mk.injEq] at h
        have hi:i=0:=by omega
        subst hi
        exact ⟨x,rfl,hk.symm⟩
       cases i with
       | zero=>
         exfalso
         rw [EH] at h
         cases hf:AW k l 0 with
         | none=>simp [hf] at h
         | some y=>simp [hf] at h;omega
       | succ i=>exact ih (n+1) i u (by rw [h];congr 2;omega)
    exact this l 0 i u (by rw [hfi];simp)
   obtain ⟨e,he,hek⟩:=hik
   refine ⟨{w with heap:=w.heap.setIfInBounds b (.map ((l.modify i fun e=>(k,v,e.2.2)).map (BU enc)).toArray c)},?_,⟨l.modify i fun e=>(k,v,e.2.2),c,hnew _,fun j=>?_⟩,hext _,hoth _⟩
   ·simp only [Instr.mapUpdate,Sem.run_bind,run_underlying hm,Result.andThen_ok,Eo hb,law.check,law.find,hfi]
    have hold:(((l.map (BU enc)).toArray[i]?).map (·.key)).getD (enc k)=enc k:=by simp [he,BU,hek]
    rw [hold]
    simp only [Instr.keyThatStays,law.same,if_true,Sem.run_pure,Result.andThen_ok]
    rw [hset]
    congr 4
    apply Array.ext_getElem?
    intro j
    simp only [Array.getElem?_modify,List.getElem?_toArray,List.getElem?_map,List.getElem?_modify]
    by_cases hij:i=j
    ·subst hij;simp [he,BU]
    simp [hij]
   rw [hmod j,hf j]
end
def ik(n:Int):Value:= .int .i64 n
theorem BB{P:Program}{kt:TypeId}(h:P.underlying kt=some (.int .i64)):Cg P kt ik where
 check w b k:=by
  unfold ik
  rw [show (10000:Nat)=9999+1 from rfl,Instr.checkKey]
  simp [run_underlying h]
 find w k l:=by
  have key:∀(l:List (Int×Value×Nat)) i,Instr.findNow (.int .i64) (ik k) (l.map (BU ik)) i=some (AW k l i):=by
   intro l
   induction l with
   | nil=>intro i;rfl
   | cons x l ih=>
     intro i
     simp only [List.map_cons,Instr.findNow,AW,BU,ik,Instr.sameNow,if_true]
     by_cases hx:k=x.1
     ·simp [hx]
     have:(k==x.1)=false:=by simpa using hx
     simp only [this,hx,if_false]
     exact ih (i+1)
  simp [Instr.findKey,run_underlying h,key]
 same k:=by unfold ik;rw [Instr.sameBits.eq_2];simp
section
variable{K:Type}[DecidableEq K]{P:Program}{enc:K→Value}
end
inductive AO where
 | ints (l:List Int)
 | val (v:Value)
def AO.cells:AO→List Value
 | .ints l=>l.map (Value.int .i64)
 | .val v=>[v]
def AE:List AO→List Value
 | []=>[]
 | p::ps=>p.cells++AE ps
def prt(g:Nat)(ps:List AO):Af:=blk g (AE ps)
inductive LE:List AO→Nat→List Int→Nat→Prop
 | head {l:List Int} {ps:List AO} {off n:Nat} (hn:A2 l n) (h:off<n):LE (.ints l::ps) off l off
 | skipI {l:List Int} {ps:List AO} {off n o2 r:Nat} {l':List Int} (hn:A2 l n) (h:n≤off) (ho:off-n=o2) (t:LE ps o2 l' r):LE (.ints l::ps) off l' r
 | skipV {v:Value} {ps:List AO} {off r:Nat} {l':List Int} (t:LE ps off l' r):LE (.val v::ps) (off+1) l' r
theorem LE.get{ps:List AO}{off r:Nat}{l:List Int}(h:LE ps off l r):(AE ps)[off]? =some (.int .i64 (AG l r)):=by
 induction h with
 | @head l ps off n hn h=>
   have hl:=hn.out
   rw [AE,AO.cells,List.getElem?_append_left (by simp;omega),List.getElem?_map,Bv l off (by omega)];rfl
 | @skipI l ps off n o2 r l' hn h ho t ih=>
   have hl:=hn.out
   rw [AE,AO.cells,List.getElem?_append_right (by simp;omega),List.length_map,hl,ho,ih]
 | @skipV v ps off r l' t ih=>
   rw [AE,AO.cells,List.singleton_append,List.getElem?_cons_succ,ih]
inductive LG:List AO→Nat→Value→Prop
 | head {v:Value} {ps:List AO}:LG (.val v::ps) 0 v
 | skipI {l:List Int} {ps:List AO} {off n o2:Nat} {v:Value} (hn:A2 l n) (h:n≤off) (ho:off-n=o2) (t:LG ps o2 v):LG (.ints l::ps) off v
 | skipV {u v:Value} {ps:List AO} {off:Nat} (t:LG ps off v):LG (.val u::ps) (off+1) v
theorem LG.get{ps:List AO}{off:Nat}{v:Value}(h:LG ps off v):(AE ps)[off]? =some v:=by
 induction h with
 | head=>rfl
 | @skipI l ps off n o2 v hn h ho t ih=>
   have hl:=hn.out
   rw [AE,AO.cells,List.getElem?_append_right (by simp;omega),List.length_map,hl,ho,ih]
 | @skipV u v ps off t ih=>
   rw [AE,AO.cells,List.singleton_append,List.getElem?_cons_succ,ih]
inductive Es:List AO→Nat→List AO→Prop
 | nil {ps:List AO}:Es ps 0 []
 | ints {l:List Int} {ps ss:List AO} {n m m2:Nat} (hn:A2 l n) (h:n≤m) (hm:m-n=m2) (t:Es ps m2 ss):Es (.ints l::ps) m (.ints l::ss)
 | val {v:Value} {ps ss:List AO} {m:Nat} (t:Es ps m ss):Es (.val v::ps) (m+1) (.val v::ss)
theorem Es.take{ps ss:List AO}{m:Nat}(h:Es ps m ss):(AE ps).take m=AE ss∧(AE ss).length=m:=by
 induction h with
 | nil=>exact ⟨by simp [AE],rfl⟩
 | @ints l ps ss n m m2 hn h hm t ih=>
   have hl:=hn.out
   refine ⟨?_,by simp only [AE,AO.cells,List.length_append,List.length_map,ih.2];omega⟩
   rw [AE,AE,AO.cells,List.take_append,List.length_map,hl,hm,ih.1,List.take_of_length_le (by simp;omega)]
 | @val v ps ss m t ih=>
   exact ⟨by simp only [AE,AO.cells,List.singleton_append,List.take_succ_cons,ih.1],by simp only [AE,AO.cells,List.singleton_append,List.length_cons,ih.2]⟩
inductive LF:List AO→Nat→Nat→List AO→Prop
 | head {ps ss:List AO} {m:Nat} (h:Es ps m ss):LF ps 0 m ss
 | skipI {l:List Int} {ps ss:List AO} {off n o2 m:Nat} (hn:A2 l n) (h:n≤off) (ho:off-n=o2) (t:LF ps o2 m ss):LF (.ints l::ps) off m ss
 | skipV {u:Value} {ps ss:List AO} {off m:Nat} (t:LF ps off m ss):LF (.val u::ps) (off+1) m ss
theorem LF.get{ps ss:List AO}{off m:Nat}(h:LF ps off m ss):((AE ps).drop off).take m=AE ss∧(AE ss).length=m:=by
 induction h with
 | head h=>rw [List.drop_zero];exact h.take
 | @skipI l ps ss off n o2 m hn h ho t ih=>
   have hl:=hn.out
   rw [AE,AO.cells,List.drop_append,List.length_map,hl,ho,List.drop_of_length_le (by simp;omega),List.nil_append];exact ih
 | @skipV u ps ss off m t ih=>
   rw [AE,AO.cells,List.singleton_append,List.drop_succ_cons];exact ih
inductive Hv:List AO→Nat→Nat→List Int→Prop
 | head {l:List Int} {ps:List AO} {n:Nat} (hn:A2 l n):Hv (.ints l::ps) 0 n l
 | skipI {l l':List Int} {ps:List AO} {off n o2 m:Nat} (hn:A2 l n) (h:n≤off) (ho:off-n=o2) (t:Hv ps o2 m l'):Hv (.ints l::ps) off m l'
 | skipV {u:Value} {l':List Int} {ps:List AO} {off m:Nat} (t:Hv ps off m l'):Hv (.val u::ps) (off+1) m l'
theorem Hv.get{ps:List AO}{off m:Nat}{l:List Int}(h:Hv ps off m l):((AE ps).drop off).take m=l.map (Value.int .i64)∧l.length=m:=by
 induction h with
 | @head l ps n hn=>
   have hl:=hn.out
   rw [List.drop_zero,AE,AO.cells,List.take_append,List.length_map,hl,Nat.sub_self,List.take_of_length_le (by simp;omega)]
   exact ⟨by simp,rfl⟩
 | @skipI l l' ps off n o2 m hn h ho t ih=>
   have hl:=hn.out
   rw [AE,AO.cells,List.drop_append,List.length_map,hl,ho,List.drop_of_length_le (by simp;omega),List.nil_append];exact ih
 | @skipV u l' ps off m t ih=>
   rw [AE,AO.cells,List.singleton_append,List.drop_succ_cons];exact ih
section
variable{P:Program}{W w:World}{rs rs':List Af}{Q:Exit→Act→World→Prop}{K:Act→World→Prop}{o:Oper}{a:Act}
theorem Ky(hS:St W w rs)(ty:TypeId)(x:Operand)(ho:o.op= .load ty x)(g off:Nat)(hx:a.eval x= .pointer (some ⟨g,off,none⟩))(h1:Gs P ty)(ps:List AO)(hp:AK (prt g ps) rs rs')
 (l:List Int) (r:Nat) (hi:LE ps off l r) (h:K (a.put o.dst (.int .i64 (AG l r))) w):o.wp P a w K Q:=
 Bp hS ty x ho g off hx h1 _ hp _ hi.get h
theorem K1(hS:St W w rs)(ty:TypeId)(x:Operand)(ho:o.op= .load ty x)(g off:Nat)(hx:a.eval x= .pointer (some ⟨g,off,none⟩))(h1:Gs P ty)(ps:List AO)(hp:AK (prt g ps) rs rs')
 (v:Value) (hi:LG ps off v) (h:K (a.put o.dst v) w):o.wp P a w K Q:=
 Bp hS ty x ho g off hx h1 _ hp _ hi.get h
theorem GY{g off m:Nat}{ps:List AO}{cs:List Value}(hS:St W w rs)(hp:AK (prt g ps) rs rs')(h:((AE ps).drop off).take m=cs):w.rangeAt g off cs:=fun j v hv=>by
 rw [←h,List.getElem?_take] at hv
 split at hv
 ·rw [List.getElem?_drop] at hv
  rw [(St.blk hS hp).1.cell];simpa using hv
 cases hv
theorem Eq(hS:St W w rs)(ty:TypeId)(x:Operand)(ho:o.op= .load ty x)(g off:Nat)(hx:a.eval x= .pointer (some ⟨g,off,none⟩))(m:Nat)(h1:Cx P ty m)(ps:List AO)(hp:AK (prt g ps) rs rs')
 (l:List Int) (hi:Hv ps off m l) (h:K (a.put o.dst (.agg (iv l))) w):o.wp P a w K Q:=
 CW ty x ho g off hx m h1 (l.map (Value.int .i64)) (by simpa using hi.get.2) (GY hS hp hi.get.1) h
theorem Kz(hS:St W w rs)(ty:TypeId)(x:Operand)(ho:o.op= .load ty x)(g off:Nat)(hx:a.eval x= .pointer (some ⟨g,off,none⟩))(m:Nat)(h1:Cx P ty m)(ps:List AO)(hp:AK (prt g ps) rs rs')
 (ss:List AO) (hi:LF ps off m ss) (h:K (a.put o.dst (.agg (AE ss).toArray)) w):o.wp P a w K Q:=
 CW ty x ho g off hx m h1 (AE ss) hi.get.2 (GY hS hp hi.get.1) h
theorem Jy(hS:St W w rs)(ty:TypeId)(x:Operand)(ho:o.op= .box ty x)(ps:List AO)(hx:a.eval x= .agg (AE ps).toArray)
 (h:∀g w',St W w' (prt g ps::rs)→K (a.put o.dst (.pointer (some ⟨g,0,none⟩))) w'):o.wp P a w K Q:=
 Hs hS ty x ho (AE ps) hx h
end
inductive DM(z:Int):List AO→Nat→List AO→Prop
 | head {l:List Int} {ps:List AO} {off n:Nat} (hn:A2 l n) (h:off<n):DM z (.ints l::ps) off (.ints (l.set off z)::ps)
 | skipI {l:List Int} {ps ps':List AO} {off n o2:Nat} (hn:A2 l n) (h:n≤off) (ho:off-n=o2) (t:DM z ps o2 ps'):DM z (.ints l::ps) off (.ints l::ps')
 | skipV {v:Value} {ps ps':List AO} {off:Nat} (t:DM z ps off ps'):DM z (.val v::ps) (off+1) (.val v::ps')
theorem DM.eq{z:Int}{ps ps':List AO}{off:Nat}(h:DM z ps off ps'):off<(AE ps).length∧AE ps'=(AE ps).set off (.int .i64 z):=by
 induction h with
 | @head l ps off n hn h=>
   have hl:=hn.out
   refine ⟨by simp [AE,AO.cells];omega,?_⟩
   rw [AE,AE,AO.cells,AO.cells,List.set_append_left _ _ (by simp;omega),List.map_set]
 | @skipI l ps ps' off n o2 hn h ho t ih=>
   have hl:=hn.out
   refine ⟨by simp [AE,AO.cells];omega,?_⟩
   rw [AE,AE,AO.cells,List.set_append_right _ _ (by simp;omega),List.length_map,hl,ho,ih.2]
 | @skipV v ps ps' off t ih=>
   refine ⟨by simp [AE,AO.cells];omega,?_⟩
   rw [AE,AE,AO.cells,List.singleton_append,List.singleton_append,List.set_cons_succ,ih.2]
inductive FF(z:Value):List AO→Nat→List AO→Prop
 | head {v:Value} {ps:List AO}:FF z (.val v::ps) 0 (.val z::ps)
 | skipI {l:List Int} {ps ps':List AO} {off n o2:Nat} (hn:A2 l n) (h:n≤off) (ho:off-n=o2) (t:FF z ps o2 ps'):FF z (.ints l::ps) off (.ints l::ps')
 | skipV {v:Value} {ps ps':List AO} {off:Nat} (t:FF z ps off ps'):FF z (.val v::ps) (off+1) (.val v::ps')
theorem FF.eq{z:Value}{ps ps':List AO}{off:Nat}(h:FF z ps off ps'):off<(AE ps).length∧AE ps'=(AE ps).set off z:=by
 induction h with
 | head=>exact ⟨by simp [AE,AO.cells],rfl⟩
 | @skipI l ps ps' off n o2 hn h ho t ih=>
   have hl:=hn.out
   refine ⟨by simp [AE,AO.cells];omega,?_⟩
   rw [AE,AE,AO.cells,List.set_append_right _ _ (by simp;omega),List.length_map,hl,ho,ih.2]
 | @skipV v ps ps' off t ih=>
   refine ⟨by simp [AE,AO.cells];omega,?_⟩
   rw [AE,AE,AO.cells,List.singleton_append,List.singleton_append,List.set_cons_succ,ih.2]
theorem CK.of{v:Value}:∀{l:List Value} {i:Nat},i<l.length→CK v i l (l.set i v)
 | [],i,h=>by simp at h
 | x::l,0,_=> .head
 | x::l,i+1,h=> .tail (CK.of (by simpa using h))
section
variable{P:Program}{W w:World}{rs rs':List Af}{Q:Exit→Act→World→Prop}{K:Act→World→Prop}{o:Oper}{a:Act}
theorem EA(hS:St W w rs)(ty:TypeId)(x y:Operand)(ho:o.op= .store ty x y)(g off:Nat)(hx:a.eval x= .pointer (some ⟨g,off,none⟩))(h1:Gs P ty)(ps ps':List AO)(hp:AK (prt g ps) rs rs')
 (z:Int) (hy:a.eval y= .int .i64 z) (hi:DM z ps off ps') (hd:o.dst=none) (h:∀w',St W w' (prt g ps'::rs')→K a w'):o.wp P a w K Q:=by
 obtain ⟨h2,h3⟩:=hi.eq
 refine Gn hS ty x y ho g off hx h1 (AE ps) (AE ps') hp (.int .i64 z) (.int hy) rfl ?_ hd h
 rw [h3];exact CK.of h2
theorem JW(hS:St W w rs)(ty:TypeId)(x y:Operand)(ho:o.op= .store ty x y)(g off:Nat)(hx:a.eval x= .pointer (some ⟨g,off,none⟩))(h1:Gs P ty)(ps ps':List AO)(hp:AK (prt g ps) rs rs')
 (z:Value) (hy:Cv (a.eval y) z) (hz:z.oneCell'=true) (hi:FF z ps off ps') (hd:o.dst=none) (h:∀w',St W w' (prt g ps'::rs')→K a w'):o.wp P a w K Q:=by
 obtain ⟨h2,h3⟩:=hi.eq
 refine Gn hS ty x y ho g off hx h1 (AE ps) (AE ps') hp z hy hz ?_ hd h
 rw [h3];exact CK.of h2
def Hd:AO→Bool
 | .ints _=>true
 | .val v=>v.oneCell'
theorem DZ:∀{ps:List AO},ps.all Hd=true→(AE ps).all (·.oneCell')=true
 | [],_=>rfl
 | .ints l::ps,h=>by
   simp only [List.all_cons,Bool.and_eq_true] at h
   simp only [AE,AO.cells,List.all_append,Bool.and_eq_true]
   refine ⟨?_,DZ h.2⟩
   rw [List.all_eq_true];intro u hu;obtain ⟨x,_,rfl⟩:=List.mem_map.1 hu;rfl
 | .val v::ps,h=>by
   simp only [List.all_cons,Bool.and_eq_true] at h
   simp only [AE,AO.cells,List.all_append,Bool.and_eq_true]
   exact ⟨by simpa [Hd] using h.1,DZ h.2⟩
theorem JV(hS:St W w rs)(ty:TypeId)(x y:Operand)(ho:o.op= .store ty x y)(g:Nat)(hx:a.eval x= .pointer (some ⟨g,0,none⟩))(m:Nat)(h1:Cx P ty m)(ps ps':List AO)(hp:AK (prt g ps) rs rs')
 (hy:a.eval y= .agg (AE ps').toArray) (hn:Es ps m ps) (hn':Es ps' m ps') (hv:ps'.all Hd=true) (hd:o.dst=none) (h:∀w',St W w' (prt g ps'::rs')→K a w'):o.wp P a w K Q:=
 CH hS ty x y ho g hx m h1 (AE ps) (AE ps') hp hy hn.take.2 hn'.take.2 (DZ hv) hd h
theorem Kx(hS:St W w rs)(ty:TypeId)(ho:o.op= .alloc ty)(ps:List AO)(hz:∀w,(zeroValue ty).run P w= .ok (.agg (AE ps).toArray) w)
 (h:∀g w',St W w' (prt g ps::rs)→K (a.put o.dst (.pointer (some ⟨g,0,none⟩))) w'):o.wp P a w K Q:=
 CU hS ty ho _ (AE ps) hz rfl h
end
def mp{K:Type}[DecidableEq K](enc:K→Value)(g:Nat)(f:K→Option Value):Af where
 holds w fp:=fp=[g]∧Du enc w g f
 lt:=fun ⟨e,h⟩ b hb=>by rw [e,List.mem_singleton] at hb;rw [hb];exact h.lt
 loc:=fun ⟨e,h⟩ hs=>⟨e,h.of_heap (hs _ (by rw [e];simp))⟩
section
variable{K:Type}[DecidableEq K]{P:Program}{enc:K→Value}{W w:World}{rs rs':List Af}{Q:Exit→Act→World→Prop}{K':Act→World→Prop}{o:Oper}{a:Act}
theorem St.mp{g:Nat}{f:K→Option Value}(h:St W w rs)(p:AK (Go.Proofs.YtngojkompmcceaaGreatDoor.mp enc g f) rs rs'):Du enc w g f:=by
 obtain ⟨_,fp,_,_,f1,f2,e,⟨e1,h4⟩,_⟩:=h.pull p
 exact h4
theorem DA(enc:K→Value)(hS:St W w rs)(t:TypeId)(ho:o.op= .makeMap t none)
 (h:∀g w',St W w' (Go.Proofs.YtngojkompmcceaaGreatDoor.mp enc g (fun _=>none)::rs)→K' (a.put o.dst (.map (some g))) w'):o.wp P a w K' Q:=by
 have hE:AP w (w.alloc (.map #[] 0)):=(AP.refl w).alloc _
 have hst:St w (w.alloc (.map #[] 0)) [Go.Proofs.YtngojkompmcceaaGreatDoor.mp enc w.heap.size (fun _=>none)]:=
  ⟨hE,[w.heap.size],by simp,by simp,[w.heap.size],[],rfl,⟨rfl,Du.new w⟩,rfl⟩
 have hh:=h _ _ (hS.call1 hst)
 unfold Oper.wp execOp
 simp only [ho]
 exact hh
theorem C9(hS:St W w rs)(mt:TypeId)(x i:Operand)(ho:o.op= .lookup mt x i false)(b:Nat)(hx:a.eval x= .map (some b))(k:K)(hk:a.eval i=enc k){kt et:TypeId}(hm:P.underlying mt=some (.map kt et))(law:Cg P kt enc)(z:Value)(hz:∀w,(zeroValue et).run P w= .ok z w)
 (f:K→Option Value) (hp:AK (Go.Proofs.YtngojkompmcceaaGreatDoor.mp enc b f) rs rs') (v:Value) (hf:f k=some v) (h:K' (a.put o.dst v) w):o.wp P a w K' Q:=by
 have hl:=(hS.mp hp).lookup hm law k false hz
 unfold Oper.wp execOp
 simp only [ho,hx,hk,Sem.run_bind,hl,hf,Result.andThen_ok,Sem.run_pure]
 exact h
theorem D9(hS:St W w rs)(mt:TypeId)(x i:Operand)(ho:o.op= .lookup mt x i false)(b:Nat)(hx:a.eval x= .map (some b))(k:K)(hk:a.eval i=enc k){kt et:TypeId}(hm:P.underlying mt=some (.map kt et))(law:Cg P kt enc)(z:Value)(hz:∀w,(zeroValue et).run P w= .ok z w)
 (f:K→Option Value) (hp:AK (Go.Proofs.YtngojkompmcceaaGreatDoor.mp enc b f) rs rs') (hf:f k=none) (h:K' (a.put o.dst z) w):o.wp P a w K' Q:=by
 have hl:=(hS.mp hp).lookup hm law k false hz
 unfold Oper.wp execOp
 simp only [ho,hx,hk,Sem.run_bind,hl,hf,Result.andThen_ok,Sem.run_pure]
 exact h
theorem Bg(hS:St W w rs)(mt:TypeId)(x i:Operand)(ho:o.op= .lookup mt x i true)(b:Nat)(hx:a.eval x= .map (some b))(k:K)(hk:a.eval i=enc k){kt et:TypeId}(hm:P.underlying mt=some (.map kt et))(law:Cg P kt enc)(z:Value)(hz:∀w,(zeroValue et).run P w= .ok z w)
 (f:K→Option Value) (hp:AK (Go.Proofs.YtngojkompmcceaaGreatDoor.mp enc b f) rs rs') (v:Value) (hf:f k=some v) (h:K' (a.put o.dst (.tuple #[v, .bool true])) w):o.wp P a w K' Q:=by
 have hl:=(hS.mp hp).lookup hm law k true hz
 unfold Oper.wp execOp
 simp only [ho,hx,hk,Sem.run_bind,hl,hf,Result.andThen_ok,Sem.run_pure]
 exact h
theorem DU(hS:St W w rs)(mt:TypeId)(x i:Operand)(ho:o.op= .lookup mt x i true)(b:Nat)(hx:a.eval x= .map (some b))(k:K)(hk:a.eval i=enc k){kt et:TypeId}(hm:P.underlying mt=some (.map kt et))(law:Cg P kt enc)(z:Value)(hz:∀w,(zeroValue et).run P w= .ok z w)
 (f:K→Option Value) (hp:AK (Go.Proofs.YtngojkompmcceaaGreatDoor.mp enc b f) rs rs') (hf:f k=none) (h:K' (a.put o.dst (.tuple #[z, .bool false])) w):o.wp P a w K' Q:=by
 have hl:=(hS.mp hp).lookup hm law k true hz
 unfold Oper.wp execOp
 simp only [ho,hx,hk,Sem.run_bind,hl,hf,Result.andThen_ok,Sem.run_pure]
 exact h
theorem Eb(hS:St W w rs)(mt:TypeId)(x i y:Operand)(ho:o.op= .mapUpdate mt x i y)(b:Nat)(hx:a.eval x= .map (some b))(k:K)(hk:a.eval i=enc k){kt et:TypeId}(hm:P.underlying mt=some (.map kt et))(law:Cg P kt enc)
 (f:K→Option Value) (hp:AK (Go.Proofs.YtngojkompmcceaaGreatDoor.mp enc b f) rs rs') (v:Value) (hv:Cv (a.eval y) v) (hd:o.dst=none) (h:∀w',St W w' (Go.Proofs.YtngojkompmcceaaGreatDoor.mp enc b (fun j=>if j=k then some v else f j)::rs')→K' a w'):o.wp P a w K' Q:=by
 obtain ⟨w',hrun,h1,h2,h3⟩:=(hS.mp hp).update hm law k (a.eval y)
 rw [hv.eq] at h1
 have hE0:AP ({w with heap:=#[]}:World) w:=⟨rfl,rfl,rfl,by simp,fun i hi=>by simp at hi⟩
 have hE1:=h2 _ (by simp) hE0
 have hlt':=h1.lt
 have hsz:w.heap.size≤w'.heap.size:=by
  by_cases hc:w.heap.size≤b+1
  ·omega
  have e1:=h3 (w.heap.size-1) (by omega)
  have e2:w.heap[w.heap.size-1]? =some (w.heap[w.heap.size-1]'(by omega)):=Array.getElem?_eq_getElem (by omega)
  rw [e2] at e1
  have:=(Array.getElem?_eq_some_iff.1 e1).1
  omega
 have hO:Cm [b] w w':=⟨hE1.os,hE1.tape,hE1.output,hsz,fun i _ hi=>h3 i (by simpa using hi)⟩
 have hh:=h w' (by
  refine St.change (rs1:=[Go.Proofs.YtngojkompmcceaaGreatDoor.mp enc b (fun j=>if j=k then some v else f j)]) (hS.pull hp) fun f1 hf1 _ _=>?_
  obtain ⟨rfl,_⟩:=hf1
  exact ⟨[b],⟨[b],[],rfl,⟨rfl,h1⟩,rfl⟩,by simp,fun c hc=> .inl hc,hO⟩)
 unfold Oper.wp execOp
 simp only [ho,hx,hk,Sem.run_bind,hrun,Result.andThen_ok,Sem.run_pure]
 show K' (a.put o.dst undef) _
 rw [hd]
 exact hh
end
def star(rs:List Af):Af:=QD fun _:Unit=>rs
theorem St.star0{W w:World}{rs:List Af}(h:St W w rs):St W w (Go.Proofs.YtngojkompmcceaaGreatDoor.star []::rs):=St.close () h
theorem St.starPut{W w:World}{r:Af}{ss rs rs':List Af}(h:St W w (Go.Proofs.YtngojkompmcceaaGreatDoor.star ss::rs))(p:AK r rs rs'):St W w (Go.Proofs.YtngojkompmcceaaGreatDoor.star (ss++[r])::rs'):=by
 have h1:St W w (r::Go.Proofs.YtngojkompmcceaaGreatDoor.star ss::rs'):=h.pull (.tail p)
 obtain ⟨_,h2⟩:=(h1.pull (.tail .head)).open
 refine St.close () ?_
 have h3:St W w (ss++(r::rs')):=h2
 simpa using h3
theorem AK.mem{r:Af}:∀{ss:List Af} (rs:List Af),r∈ss→∃ss',AK r (ss++rs) ss'
 | [],_,h=>by cases h
 | x::ss,rs,h=>by
   by_cases hx:r=x
   ·subst hx;exact ⟨_, .head⟩
   obtain ⟨s,hs⟩:=AK.mem (ss:=ss) rs ((List.mem_cons.1 h).resolve_left hx);exact ⟨x::s, .tail hs⟩
theorem St.starGet{W w:World}{ss rs rs':List Af}(h:St W w rs)(p:AK (Go.Proofs.YtngojkompmcceaaGreatDoor.star ss) rs rs'){r:Af}(hr:r∈ss):∃rs'',St W w (r::rs''):=by
 obtain ⟨_,h2⟩:=(h.pull p).open
 obtain ⟨s,hs⟩:=AK.mem rs' hr
 exact ⟨s,h2.pull hs⟩
theorem H0(w:World)(n:Int):Calls Tryz.prog 97 #[.int .i64 n] w fun e w'=>e= .returned (.bool (decide (n<0)||decide (9999<n)))∧w=w':=by
 by_cases h:n<0
 ·have h2:decide (n<0)=true:=by simpa using h
  rw [h2]
  go_enter Tryz.func97,Tryz.ntmps97
  go_wp2_with fail
  go_ret
  exact ⟨rfl,rfl⟩
 have h2:decide (n<0)=false:=by simpa using h
 rw [h2,Bool.false_or]
 have h3:0≤n:=by omega
 clear h
 go_enter Tryz.func97,Tryz.ntmps97
 go_wp2_with fail
 go_ret
 exact ⟨rfl,rfl⟩
def bE(c:List Int):Int:=if 256<c.length then 2 else if BJ c 0 9999 then 0 else 1
theorem Dw(w0:World)(c:List Int)(ad:Option Addr)(n cap:Nat)(hv:Sl w0 1 (.slice ad n cap) n (c.map (Value.int .i64)))(hn:n≤9223372036854775807):
 Calls Tryz.prog 72 #[.slice ad n cap] w0 fun e w=>e= .returned (.int .i64 (bE c))∧AP w0 w:=by
 have hl:c.length=n:=by have:=hv.1;simpa using this
 have hS:=St.start w0
 have HC:=AD (fun (w:World)(hE:AP w0 w)=>Au w (.slice ad n cap) c (by unfold Md;rw [hl];exact hv.ext hE) 97 #[] (fun n=>decide (n<0)||decide (9999<n)) Tryz.call97 (fun m=>H0 w m))
 obtain ⟨B,hB⟩:∃B,c.any (fun n=>decide (n<0)||decide (9999<n))=B:=⟨_,rfl⟩
 have hE:bE c=if 256<n then 2 else if B then 1 else 0:=by
  unfold bE BJ;rw [hl,hB]
  cases B<;>rfl
 rw [hB] at HC
 rw [hE]
 clear hE hB hv
 by_cases h256:256<n
 ·rw [if_pos h256]
  go_enter Tryz.func72,Tryz.ntmps72
  repeat' (first
   | refine X0 ?_|refine J4 5 ?_|refine J2 6 ?_|refine AF ?_;go_step|fail)
  go_ret
  exact ⟨rfl,hS.1⟩
 rw [if_neg h256]
 cases B with
 | true=>
   rw [if_pos rfl]
   go_enter Tryz.func72,Tryz.ntmps72
   repeat' (first
    | refine X0 ?_|refine J4 5 ?_|refine J2 6 ?_|refine AF ?_;go_step|fail)
   repeat' (first
    | (refine Av 65 ?_);refine Aw AA Tryz.call65 (HC.out _ hS.1) ?_;rintro e w ⟨rfl,rfl⟩;refine A9 ?_;go_step|refine X7 ?_|refine AF ?_;go_step|fail)
   all_goals go_ret
   all_goals exact ⟨rfl,hS.1⟩
 | false=>
   rw [if_neg (by decide)]
   go_enter Tryz.func72,Tryz.ntmps72
   repeat' (first
    | refine X0 ?_|refine J4 5 ?_|refine J2 6 ?_|refine AF ?_;go_step|fail)
   repeat' (first
    | (refine Av 65 ?_);refine Aw AA Tryz.call65 (HC.out _ hS.1) ?_;rintro e w ⟨rfl,rfl⟩;refine A9 ?_;go_step|refine X7 ?_|refine AF ?_;go_step|fail)
   all_goals go_ret
   all_goals exact ⟨rfl,hS.1⟩
structure GP where
 w:Int
 r:Sr
def DL(p:GP):Bu:=⟨p.w,p.r.ad,p.r.xs.length,p.r.c⟩
def C3(p:GP):Pk:=(p.w,p.r.xs)
theorem Jj(G:List GP)(p:GP):((G++[p]).map DL).flatMap GG=(G.map DL).flatMap GG++[.int .i64 p.w, .slice p.r.ad p.r.xs.length p.r.c]:=by
 rw [List.map_append,List.flatMap_append];rfl
theorem OP(G H:List GP):((G++H).map DL).flatMap GG=(G.map DL).flatMap GG++(H.map DL).flatMap GG:=by
 rw [List.map_append,List.flatMap_append]
def Ey(c:List Int)(k:Nat):List Pk:=(0,[-1])::((List.range k).filter fun s=>decide (0<AG c s)).map fun s=>(AG c s,[(s:Int)])
theorem MG(c:List Int)(k:Nat):Ey c (k+1)=if 0<AG c k then Ey c k++[(AG c k,[(k:Int)])] else Ey c k:=by
 unfold Ey
 rw [List.range_succ,List.filter_append]
 by_cases h:0<AG c k
 ·rw [if_pos h,List.filter_cons_of_pos (by simpa using h)];simp
 rw [if_neg h,List.filter_cons_of_neg (by simpa using h)];simp
theorem Nf(c:List Int)(k:Nat):(Ey c k).length≤k+1:=by
 unfold Ey
 have:=List.length_filter_le (fun s=>decide (0<AG c s)) (List.range k)
 simp at this⊢
 exact this
theorem BO.syll{S R:List Pk}{k:Nat}(h:BO S k R):(Bi R).length≤k*(Bi S).length:=by
 induction h with
 | one R p _=>have:=(Cs p).length_eq;omega
 | @more k R Q h p _ ih=>
   have h1:=(Cs p).length_eq
   rw [BC,List.length_append] at h1
   obtain ⟨z,hu,_⟩:=Bw R
   have h2:Bi (CX R)=Bi (Ce (F3 R)):=Fl (F3 R)
   have h3:=congrArg (fun l=>(Bi l).length) hu
   simp only [BC,List.length_append] at h3
   rw [h2] at h1
   rw [Nat.add_mul,Nat.one_mul]
   omega
theorem Ng{R:List Pk}{x:Pk}(h:x∈R):x.2.length≤(Bi R).length:=by
 induction R with
 | nil=>cases h
 | cons a R ih=>
   rw [CT,List.length_append]
   rcases List.mem_cons.1 h with rfl|h
   ·omega
   have:=ih h;omega
theorem Kb(R:List Pk)(q:Nat)(h:2*q+1<R.length):(CX R).take (q+1)=(CX R).take q++[Bb (AN R (2*q),AN R (2*q+1))]:=by
 induction q generalizing R with
 | zero=>
   match R,h with
   | a::b::l,_=>simp [CX,F3,AN]
 | succ q ih=>
   match R,h with
   | a::b::l,h=>
     have e:=ih l (by simp at h;omega)
     have e1:CX (a::b::l)=Bb (a,b)::CX l:=by simp [CX,F3]
     rw [e1,List.take_succ_cons,e,List.take_succ_cons,List.cons_append]
     congr 3
theorem NE{α:Type}[Inhabited α](l:List α)(i:Nat)(h:i<l.length):l[i]=AN l i:=by simp [AN,h]
theorem Lg(G:List GP)(k:Nat)(h:k<G.length):∃p,p∈G∧AN (G.map DL) k=DL p∧AN (G.map C3) k=C3 p:=by
 refine ⟨G[k],List.getElem_mem h,?_,?_⟩
 ·simp [AN,h]
 simp [AN,h]
theorem BO.wbd{S R:List Pk}{k:Nat}(h0:∀x∈S,0≤x.1∧x.1≤9999*x.2.length)(h:BO S k R):∀x∈R,0≤x.1∧x.1≤9999*x.2.length:=by
 induction h with
 | one R p _=>exact fun x hx=>h0 x (p.mem_iff.1 hx)
 | @more k R Q h p _ ih=>
   intro x hx
   rcases List.mem_append.1 (p.mem_iff.1 hx) with hx|hx
   ·obtain ⟨q,hq,rfl⟩:=List.mem_map.1 hx
    have h1:=ih q.1 (EO hq).1
    have h2:=ih q.2 (EO hq).2
    simp only [Bb,List.length_append]
    push_cast
    omega
   exact h0 x hx
theorem OY(c:List Int)(n k:Nat)(h:∀i,i<n→0≤AG c i∧AG c i≤9999)(hk:k≤n):∀x∈Ey c k,0≤x.1∧x.1≤9999*x.2.length:=by
 intro x hx
 rcases List.mem_cons.1 hx with rfl|hx
 ·simp
 obtain ⟨s,hs,rfl⟩:=List.mem_map.1 hx
 have h1:=(List.mem_filter.1 hs).1
 have:=h s (by simp at h1;omega)
 simp;omega
theorem Hg(c:List Int)(k:Nat):(Bi (Ey c k)).length=(Ey c k).length:=by
 have:∀l:List Nat,(Bi (l.map fun s=>(AG c s,[(s:Int)]))).length=l.length:=fun l=>by
  induction l with
  | nil=>rfl
  | cons a l ih=>rw [List.map_cons,CT,List.length_append,ih];simp;omega
 unfold Ey
 rw [CT,List.length_append,this]
 simp;omega
theorem MC{c:List Int}{n j:Nat}{R:List Pk}(h:∀i,i<n→0≤AG c i∧AG c i≤9999)(hn:n≤256)(hj:j≤16)(hR:BO (Ey c n) j R):∀x∈R,0≤x.1∧x.1≤50000000∧x.2.length≤5000:=by
 intro x hx
 have h1:=hR.wbd (OY c n n h (Nat.le_refl _)) x hx
 have h2:=hR.syll
 have h3:=Ng hx
 have h4:=Nf c n
 rw [Hg] at h2
 have h5:j*(Ey c n).length≤16*257:=Nat.mul_le_mul hj (by omega)
 omega
def FM(l:List Int)(s:Int):Option Value:=if l.count s=0 then none else some (.int .i64 (l.count s:Nat))
theorem KB(l:List Int)(s:Int):(fun j=>if j=s then some (Value.int .i64 ((l.count s+1:Nat):Int)) else FM l j)=FM (l++[s]):=by
 funext j
 unfold FM
 rw [List.count_append]
 by_cases h:j=s
 ·subst h;simp
 have:List.count j [s]=0:=by rw [List.count_eq_zero];simp [h]
 rw [if_neg h,this,Nat.add_zero]
theorem LY:FM []=fun _=>none:=by funext j;simp [FM]
def A6(f:Int→Nat)(n k:Nat):List Int:=((List.range n).filter fun (s:Nat)=>decide (f (s:Int)=k)).map fun (s:Nat)=>(s:Int)
theorem D4(f:Int→Nat)(n k:Nat):A6 f (n+1) k=if f (n:Int)=k then A6 f n k++[(n:Int)] else A6 f n k:=by
 unfold A6
 rw [List.range_succ,List.filter_append]
 by_cases h:f (n:Int)=k
 ·rw [if_pos h,List.filter_cons_of_pos (by simpa using h)];simp
 rw [if_neg h,List.filter_cons_of_neg (by simpa using h)];simp
def BY(f:Int→Nat)(n k:Nat):List Int:=(List.range k).flatMap fun i=>A6 f n (i+1)
theorem Bf(f:Int→Nat)(n k:Nat):BY f n (k+1)=BY f n k++A6 f n (k+1):=by
 unfold BY;rw [List.range_succ,List.flatMap_append];simp
theorem Df(f:Int→Nat)(n k:Nat):(A6 f n k).length≤n:=by
 have:=List.length_filter_le (fun s:Nat=>decide (f (s:Int)=k)) (List.range n)
 simp [A6] at this⊢;exact this
theorem JH(f:Int→Nat)(n k:Nat):(BY f n k).length≤k*n:=by
 induction k with
 | zero=>simp [BY]
 | succ k ih=>rw [Bf,List.length_append,Nat.add_mul,Nat.one_mul];have:=Df f n (k+1);omega
def Dm(f:Int→Nat)(n k s i:Nat):Int:=if i<k then ((A6 f n (i+1)).length:Nat) else if i=k then ((A6 f s (i+1)).length:Nat) else 0
end Go.Proofs.YtngojkompmcceaaGreatDoor
namespace Go.Proofs.YtngojkompmcceaaGreatDoor
attribute [local irreducible] Region.wanted
set_option linter.unusedVariables false
set_option maxRecDepth 100000
set_option maxHeartbeats 8000000
def nx(c:Nat→Nat):Nat→Nat
 | 0=>0
 | k+1=>2*nx c k+c k
def DW(c:Nat→Nat):Nat→List (Nat×Nat)
 | 0=>[]
 | k+1=>DW c k++(List.range (c k)).map fun j=>(k+1,2*nx c k+j)
def sm(c:Nat→Nat):Nat→Nat
 | 0=>0
 | k+1=>sm c k+c k
theorem Cz(c:Nat→Nat):∀k,(DW c k).length=sm c k
 | 0=>rfl
 | k+1=>by simp [DW,sm,Cz c k]
def Mr(x:Nat×Nat):Nat:=x.2*2^(16-x.1)
def Nq(x:Nat×Nat):Nat:=(x.2+1)*2^(16-x.1)
inductive DI:Nat→List (Nat×Nat)→Nat→Prop
 | nil {a:Nat}:DI a [] a
 | cons {x:Nat×Nat} {l:List (Nat×Nat)} {b:Nat} (h:DI (Nq x) l b):DI (Mr x) (x::l) b
theorem DI.append{a b c:Nat}{l m:List (Nat×Nat)}(h:DI a l b)(k:DI b m c):DI a (l++m) c:=by
 induction h with
 | nil=>exact k
 | cons h ih=>exact .cons (ih k)
theorem Ie(k s:Nat):∀n a,DI ((s+a)*2^(16-(k+1))) ((List.range' a n).map fun j=>(k+1,s+j)) ((s+a+n)*2^(16-(k+1)))
 | 0,a=>by simpa using DI.nil
 | n+1,a=>by
   have h:=Ie k s n (a+1)
   simp only [List.range'_succ,List.map_cons]
   refine DI.cons (x:=(k+1,s+a)) ?_
   rw [show s+a+(n+1)=s+(a+1)+n by omega]
   exact h
theorem Fo(c:Nat→Nat):∀k,k≤16→DI 0 (DW c k) (nx c k*2^(16-k))
 | 0,_=>by simpa [DW,nx] using DI.nil
 | k+1,h=>by
   have h1:=Fo c k (by omega)
   have h2:=Ie k (2*nx c k) (c k) 0
   have e:nx c k*2^(16-k)=(2*nx c k+0)*2^(16-(k+1)):=by
    rw [show 16-k=(16-(k+1))+1 by omega,Nat.pow_succ,Nat.add_zero (2*_),Nat.mul_comm 2 (nx c k),Nat.mul_assoc (nx c k) 2,Nat.mul_comm 2]
   rw [e] at h1
   rw [DW,nx,List.range_eq_range']
   exact h1.append h2
theorem DI.le{a b:Nat}{l:List (Nat×Nat)}(h:DI a l b):a≤b:=by
 induction h with
 | nil=>omega
 | @cons x l b h ih=>
   have:Mr x≤Nq x:=Nat.mul_le_mul_right _ (by omega)
   omega
theorem DI.mem{a b:Nat}{l:List (Nat×Nat)}(h:DI a l b):∀x∈l,a≤Mr x∧Nq x≤b:=by
 induction h with
 | nil=>intro x hx;cases hx
 | @cons y l b h ih=>
   intro x hx
   rcases List.mem_cons.1 hx with rfl|hx
   ·exact ⟨Nat.le_refl _,h.le⟩
   have h1:=ih x hx
   have:Mr y≤Nq y:=Nat.mul_le_mul_right _ (by omega)
   omega
theorem DI.pair{a b:Nat}{l:List (Nat×Nat)}(h:DI a l b):l.Pairwise fun x y=>Nq x≤Mr y:=by
 induction h with
 | nil=>exact List.Pairwise.nil
 | @cons x l b h ih=>exact List.Pairwise.cons (fun y hy=>(h.mem y hy).1) ih
theorem FK(c:Nat→Nat):∀k x,x∈DW c k→1≤x.1∧x.1≤k
 | 0,x,h=>by cases h
 | k+1,x,h=>by
   rcases List.mem_append.1 h with h|h
   ·have:=FK c k x h;omega
   obtain ⟨j,_,rfl⟩:=List.mem_map.1 h
   exact ⟨by simp,by simp⟩
def Gb(c:Nat→Nat):Prop:=∀k,k<16→nx c (k+1)<2^(k+1)
theorem L7(c:Nat→Nat)(k:Nat):∀d,nx c k*2^d≤nx c (k+d)
 | 0=>by simp
 | d+1=>by
   have:=L7 c k d
   rw [←Nat.add_assoc,nx,Nat.pow_succ,←Nat.mul_assoc];omega
theorem Db(c:Nat→Nat):Gb c↔nx c 16<65536:=by
 constructor
 ·intro h;exact h 15 (by omega)
 intro h k hk
 have h1:=L7 c (k+1) (15-k)
 rw [show k+1+(15-k)=16 by omega] at h1
 have h2:nx c (k+1)*2^(15-k)<2^(k+1)*2^(15-k):=by
  rw [←Nat.pow_add,show k+1+(15-k)=16 by omega];exact Nat.lt_of_le_of_lt h1 h
 exact Nat.lt_of_mul_lt_mul_right h2
theorem OK(c:Nat→Nat)(h:Gb c)(x:Nat×Nat)(hx:x∈DW c 16):x.2+1<2^x.1∧1≤x.1∧x.1≤16:=by
 have h1:=FK c 16 x hx
 have h2:=((Fo c 16 (by omega)).mem x hx).2
 have h3:=(Db c).1 h
 refine ⟨?_,h1.1,h1.2⟩
 have h4:(x.2+1)*2^(16-x.1)<2^x.1*2^(16-x.1):=by
  rw [←Nat.pow_add,show x.1+(16-x.1)=16 by omega]
  have:Nq x=(x.2+1)*2^(16-x.1):=rfl
  simp at h2;omega
 exact Nat.lt_of_mul_lt_mul_right h4
theorem It(x y:Nat×Nat)(hx:x.1≤y.1)(hy:y.1≤16)(h:y.2/2^(y.1-x.1)=x.2):Mr x≤Mr y∧Mr y<Nq x:=by
 have hp:0<2^(y.1-x.1):=Nat.two_pow_pos _
 have hq:0<2^(16-y.1):=Nat.two_pow_pos _
 have e:2^(16-x.1)=2^(y.1-x.1)*2^(16-y.1):=by rw [←Nat.pow_add];congr 1;omega
 have h1:x.2*2^(y.1-x.1)≤y.2:=by rw [←h];exact Nat.div_mul_le_self _ _
 have h2:y.2<(x.2+1)*2^(y.1-x.1):=by rw [←h,Nat.mul_comm];exact Nat.lt_mul_div_succ _ hp
 unfold Mr Nq
 rw [e,←Nat.mul_assoc,←Nat.mul_assoc]
 exact ⟨Nat.mul_le_mul_right _ h1,Nat.mul_lt_mul_of_pos_right h2 hq⟩
theorem J7(c:Nat→Nat)(i j:Nat)(x y:Nat×Nat)(hi:(DW c 16)[i]? =some x)(hj:(DW c 16)[j]? =some y)(hne:i≠j)(hl:x.1≤y.1):¬y.2/2^(y.1-x.1)=x.2:=by
 intro h
 have hp:=(Fo c 16 (by omega)).pair
 have hy:=FK c 16 y (List.mem_of_getElem? hj)
 obtain ⟨h1,h2⟩:=It x y hl hy.2 h
 rw [List.pairwise_iff_getElem] at hp
 obtain ⟨hi1,hi2⟩:=List.getElem?_eq_some_iff.1 hi
 obtain ⟨hj1,hj2⟩:=List.getElem?_eq_some_iff.1 hj
 have hw:∀z:Nat×Nat,Mr z<Nq z:=fun z=>Nat.mul_lt_mul_of_pos_right (by omega) (Nat.two_pow_pos _)
 rcases Nat.lt_or_gt_of_ne hne with g|g
 ·have:=hp i j hi1 hj1 g
  rw [hi2,hj2] at this;omega
 have:=hp j i hj1 hi1 g
 rw [hi2,hj2] at this
 have:=hw y
 omega
def cc(C:List Int)(k:Nat):Nat:=(AG C k).toNat
def E0(C:List Int):Bool:=(List.range 16).all (fun k=>decide (0≤AG C k∧AG C k≤256))&&decide (sm (cc C) 16≤256)
theorem CG(C:List Int):E0 C=true↔(∀k,k<16→0≤AG C k∧AG C k≤256)∧sm (cc C) 16≤256:=by
 simp [E0]
def IV(c:Nat→Nat):Bool:=(List.range 16).all fun k=>decide (nx c (k+1)<2^(k+1))
theorem Da(c:Nat→Nat):IV c=true↔Gb c:=by simp [IV,Gb]
def Ib(S:List Int):Bool:=S.all fun s=>decide (0≤s)&&decide (s<256)
def BH(C S:List Int):Int:=
 if E0 C=true∧sm (cc C) 16=S.length then if Ib S then if S.Nodup∧IV (cc C)=true then 0 else 4 else 1 else 4
theorem C7{C S:List Int}(h:BH C S=0):(∀k,k<16→0≤AG C k∧AG C k≤256)∧sm (cc C) 16=S.length∧S.length≤256∧(∀s∈S,0≤s∧s<256)∧S.Nodup∧Gb (cc C):=by
 unfold BH at h
 split at h
 ·rename_i h1
  split at h
  ·rename_i h2
   split at h
   ·rename_i h3
    obtain ⟨h4,h5⟩:=(CG C).1 h1.1
    refine ⟨h4,h1.2,by omega,?_,h3.1,(Da _).1 h3.2⟩
    intro s hs
    have:=List.all_eq_true.1 h2 s hs
    simpa using this
   cases h
  cases h
 cases h
theorem Nj{C S:List Int}(h1:E0 C=true)(h2:sm (cc C) 16=S.length)(h3:∀s∈S,0≤s∧s<256)(h4:S.Nodup)(h5:Gb (cc C)):BH C S=0:=by
 unfold BH
 rw [if_pos ⟨h1,h2⟩,if_pos,if_pos ⟨h4,(Da _).2 h5⟩]
 rw [Ib,List.all_eq_true];intro s hs;simpa using h3 s hs
def Bt(C S:List Int):List (Int×Nat×Nat):=S.zip (DW (cc C) 16)
def JR(l:List (Int×Nat×Nat)):List Int:=l.flatMap fun x=>[x.1,(x.2.1:Int),(x.2.2:Int)]
theorem MR(l:List (Int×Nat×Nat))(x:Int×Nat×Nat):JR (l++[x])=JR l++[x.1,(x.2.1:Int),(x.2.2:Int)]:=by simp [JR]
theorem Jw:∀(l:List (Int×Nat×Nat))(k:Nat)(x:Int×Nat×Nat),l[k]? =some x→((JR l).drop (k*3)).take 3=[x.1,(x.2.1:Int),(x.2.2:Int)]
 | [],k,x,h=>by simp at h
 | y::l,0,x,h=>by
   obtain rfl:y=x:=by simpa using h
   simp [JR]
 | y::l,k+1,x,h=>by
   have:=Jw l k x (by simpa using h)
   rw [show (k+1)*3=k*3+3 by omega]
   simp only [JR,List.flatMap_cons] at*
   rw [List.drop_append,List.drop_of_length_le (by simp)]
   simpa using this
theorem Ma(S:List Int)(A:List (Nat×Nat))(x:Nat×Nat)(h:A.length<S.length):S.zip (A++[x])=S.zip A++[(AG S A.length,x)]:=by
 apply List.ext_getElem?
 intro i
 rcases Nat.lt_trichotomy i A.length with g|g|g
 ·rw [List.getElem?_append_left (by simp;omega)]
  simp only [List.zip,List.getElem?_zipWith]
  rw [List.getElem?_append_left g]
 ·subst g
  rw [List.getElem?_append_right (by simp;omega)]
  simp only [List.zip,List.getElem?_zipWith]
  rw [List.getElem?_append_right (by omega),Bv S _ h,Nat.sub_self,show (List.zipWith Prod.mk S A).length=A.length by simp;omega,Nat.sub_self]
  rfl
 rw [List.getElem?_eq_none (by simp;omega),List.getElem?_eq_none (by simp;omega)]
theorem Hq(C S:List Int)(h:sm (cc C) 16=S.length):(Bt C S).length=S.length:=by
 simp [Bt,Cz,h]
theorem No(C S:List Int)(h:sm (cc C) 16=S.length)(i:Nat)(hi:i<S.length):∃x,(DW (cc C) 16)[i]? =some x∧(Bt C S)[i]? =some (AG S i,x):=by
 have hl:i<(DW (cc C) 16).length:=by rw [Cz];omega
 refine ⟨_,List.getElem?_eq_getElem hl,?_⟩
 simp only [Bt,List.zip,List.getElem?_zipWith,Bv S i hi,List.getElem?_eq_getElem hl]
theorem Hr(C S:List Int)(x:Int×Nat×Nat)(hx:x∈Bt C S):x.1∈S∧x.2∈DW (cc C) 16:=List.of_mem_zip (a:=x.1) (b:=x.2) hx
def symW(L:List (Int×Nat×Nat))(s:Int):Option (Nat×Nat):=(L.reverse.find? fun x=>decide (x.1=s)).map (·.2)
theorem Ko(L:List (Int×Nat×Nat))(x:Int×Nat×Nat)(s:Int):symW (L++[x]) s=if s=x.1 then some x.2 else symW L s:=by
 unfold symW
 rw [List.reverse_append,List.reverse_singleton,List.singleton_append,List.find?_cons]
 by_cases h:s=x.1
 ·simp [h]
 have:¬x.1=s:=fun e=>h e.symm
 simp [h,this]
theorem ET{L:List (Int×Nat×Nat)}{s:Int}{y:Nat×Nat}(h:symW L s=some y):(s,y)∈L:=by
 unfold symW at h
 cases hf:L.reverse.find? fun x=>decide (x.1=s) with
 | none=>rw [hf] at h;cases h
 | some x=>
   rw [hf] at h
   have h1:=List.mem_of_find?_eq_some hf
   have h2:=List.find?_some hf
   simp only [Option.map_some,Option.some.injEq] at h
   simp only [decide_eq_true_eq] at h2
   subst h;subst h2
   simpa using h1
theorem Kn{L:List (Int×Nat×Nat)}{s:Int}(h:symW L s=none):∀x∈L,x.1≠s:=by
 unfold symW at h
 rw [Option.map_eq_none_iff,List.find?_eq_none] at h
 intro x hx
 simpa using h x (by simpa using hx)
structure OC(L:List (Int×Nat×Nat)):Prop where
 long:∀x∈L,1≤x.2.1∧x.2.1≤16∧x.2.2+1<2^x.2.1
 sym:∀x∈L,∀y∈L,x.1=y.1→x=y
 pre:∀x∈L,∀y∈L,x.2.1≤y.2.1→y.2.2/2^(y.2.1-x.2.1)=x.2.2→x=y
 range:∀x∈L,0≤x.1∧x.1<256
theorem Ft{C S:List Int}(h:BH C S=0):OC (Bt C S):=by
 obtain ⟨h1,h2,h3,h4,h5,h6⟩:=C7 h
 have idx:∀x∈Bt C S,∃i,i<S.length∧x.1=AG S i∧(DW (cc C) 16)[i]? =some x.2∧(Bt C S)[i]? =some x:=fun x hx=>by
  obtain ⟨i,hi,e⟩:=List.getElem_of_mem hx
  rw [Hq C S h2] at hi
  obtain ⟨y,e1,e2⟩:=No C S h2 i hi
  have e3:(Bt C S)[i]? =some x:=by rw [List.getElem?_eq_getElem (by rw [Hq C S h2];exact hi),e]
  rw [e2] at e3
  obtain rfl:(AG S i,y)=x:=by simpa using e3
  exact ⟨i,hi,rfl,e1,e2⟩
 refine ⟨fun x hx=>?_,fun x hx y hy e=>?_,fun x hx y hy hl hp=>?_,fun x hx=>h4 _ (Hr C S x hx).1⟩
 ·have:=OK (cc C) h6 x.2 (Hr C S x hx).2
  exact ⟨this.2.1,this.2.2,this.1⟩
 ·obtain ⟨i,hi,ei,ci,wi⟩:=idx x hx
  obtain ⟨j,hj,ej,cj,wj⟩:=idx y hy
  have hij:i=j:=by
   rw [ei,ej] at e
   have gi:=Bv S i hi
   have gj:=Bv S j hj
   rw [e] at gi
   exact (List.getElem?_inj hi h5).1 (by rw [gi,gj])
  subst hij
  rw [wi] at wj
  simpa using wj
 obtain ⟨i,hi,ei,ci,wi⟩:=idx x hx
 obtain ⟨j,hj,ej,cj,wj⟩:=idx y hy
 by_cases hij:i=j
 ·subst hij;rw [wi] at wj;simpa using wj
 exact absurd hp (J7 (cc C) i j x.2 y.2 ci cj hij hl)
theorem OC.symW{L:List (Int×Nat×Nat)}(h:OC L){x:Int×Nat×Nat}(hx:x∈L):symW L x.1=some x.2:=by
 cases hs:Go.Proofs.YtngojkompmcceaaGreatDoor.symW L x.1 with
 | none=>exact absurd rfl (Kn hs x hx)
 | some y=>
   have:=h.sym _ (ET hs) x hx rfl
   rw [←this]
theorem QK(w:World):(zeroValue 85).run Tryz.prog w= .ok (.agg (AE [.ints (List.replicate 16 0), .val (.slice none 0 0)]).toArray) w:=by first|exact Tryz.zeroValue85 w|kernel_rfl
end Go.Proofs.YtngojkompmcceaaGreatDoor
