/- What the laws DeskFront DeskErrors DeskSet need, part 7. -/
import Derived.Test.YtngojkompmcceaaGreatDoorBaseDZ2
import Derived.Test.YtngojkompmcceaaGreatDoorBaseDZ6
namespace Go.Proofs.YtngojkompmcceaaGreatDoor
attribute [local irreducible] Region.wanted
open Go.RowKit
set_option linter.unusedVariables false
set_option maxRecDepth 100000
set_option maxHeartbeats 8000000
theorem I3(m0:Int)(m1:Int)(m2:Int)(w:World):(Instr.build 120 #[(0, .int .i64 m0),(1, .int .i64 m1),(2, .int .i64 m2)]).run Tryz.prog w= .ok (.agg #[.int .i64 m0, .int .i64 m1, .int .i64 m2]) w:=by kernel_rfl
abbrev tv(C:List Int)(v:Value):Value:= .agg (AE [.ints C, .val v]).toArray
theorem IL(C:List Int)(k:Nat)(h:0≤AG C k):AG C k=((cc C k:Nat):Int):=by unfold cc;omega
theorem Ho{a:Value}{x y:Bool}(h:x=y):Ending.returned (.tuple #[a, .bool x])= .returned (.tuple #[a, .bool y]):=by rw [h]
theorem H0(w0:World)(C:List Int)(v:Value)(hC:A4 C 16)(h:FM C=true):Calls Tryz.prog 114 #[tv C v] w0 fun e w=>e= .returned (.tuple #[.int .i64 (sm (cc C) 16:Nat), .bool true])∧AP w0 w:=by
 obtain ⟨hb,h16⟩:=(CV C).1 h
 have HB:=AC hb
 clear hb h
 have hS:=St.start w0
 go_enter Tryz.func114,Tryz.ntmps114
 repeat' (first
  | refine X0 ?_|refine Q5 ?_|refine Mj 1 ?_;clear hS;intro g1 w hS|refine Q8 ?_|refine AF ?_;go_step|fail)
 go_loopg [4,9] 16 (fun gk av kv w=>∃k:Nat,gk+k=16∧kv= .int .i64 k∧av= .int .i64 (sm (cc C) k:Nat)∧sm (cc C) k≤256*k∧St w0 w [])
 case atStart=>exact ⟨0,rfl,rfl,rfl,by simp [sm],hS.sub Ad⟩
 case round=>
  clear hS
  obtain ⟨k,hk,rfl,rfl,hs,hS⟩:=hrel
  by_cases hlt:k<16
  ·have hx:=HB.out k hlt
   have hsm:=AC (show sm (cc C) (k+1)=sm (cc C) k+cc C k from rfl)
   have hci:=IL C k hx.1
   obtain ⟨y,hy⟩:∃y,cc C k=y:=⟨_,rfl⟩
   rw [hy] at hci hsm
   obtain ⟨x,hxe⟩:∃x,AG C k=x:=⟨_,rfl⟩
   have HX:=AC hxe
   rw [hxe] at hci hx
   subst hci
   clear hxe hy
   repeat' (first
    | refine QF 11 ?_|refine X0 ?_|refine Jo ?_|refine X6 13 ?_ ?_<;>intro hB<;>(try exact AU)<;>go_step|refine X2 ?_|refine Gg ?_|refine X4 ?_|refine AF ?_;go_step|fail)
   go_roundg (gk-1)
   case measure=>omega
   case rel=>exact ⟨k+1,by omega,by go_num,by rw [hsm.out];go_num,by rw [hsm.out];omega,hS⟩
  obtain rfl:k=16:=by omega
  repeat' (first
   | refine X0 ?_|refine X2 ?_|refine Qz ?_|refine AF ?_;go_step|fail)
  refine AJ (xs:=[_,_]) rfl (.cons (AD.tmp rfl) (.cons (AD.tmp rfl) (.nil))) (by simp) rfl ?_
  exact ⟨Ho (decide_eq_true (by omega)),hS.1⟩
theorem Nv(w0:World)(C:List Int)(v:Value)(hC:A4 C 16)(h:FM C=false):Calls Tryz.prog 114 #[tv C v] w0 fun e w=>∃z,e= .returned (.tuple #[.int .i64 z, .bool false])∧AP w0 w:=by
 have hb:¬((∀k,k<16→0≤AG C k∧AG C k≤256)∧sm (cc C) 16≤256):=by rw [←CV,h];simp
 have HB:=AC hb
 clear hb h
 have hS:=St.start w0
 go_enter Tryz.func114,Tryz.ntmps114
 repeat' (first
  | refine X0 ?_|refine Q5 ?_|refine Mj 1 ?_;clear hS;intro g1 w hS|refine Q8 ?_|refine AF ?_;go_step|fail)
 go_loopg [4,9] 16 (fun gk av kv w=>∃k:Nat,gk+k=16∧kv= .int .i64 k∧av= .int .i64 (sm (cc C) k:Nat)∧Hid (∀j,j<k→0≤AG C j∧AG C j≤256)∧sm (cc C) k≤256*k∧St w0 w [])
 case atStart=>exact ⟨0,rfl,rfl,rfl,AC (fun j hj=>absurd hj (by omega)),by simp [sm],hS.sub Ad⟩
 case round=>
  clear hS
  obtain ⟨k,hk,rfl,rfl,HA,hs,hS⟩:=hrel
  by_cases hlt:k<16
  ·have hsm:=AC (show sm (cc C) (k+1)=sm (cc C) k+cc C k from rfl)
   by_cases hx:0≤AG C k∧AG C k≤256
   ·have hci:=IL C k hx.1
    have HA2:Hid (∀j,j<k+1→0≤AG C j∧AG C j≤256):=AC fun j hj=>by
     by_cases hjk:j<k
     ·exact HA.out j hjk
     obtain rfl:j=k:=by omega
     exact hx
    obtain ⟨y,hy⟩:∃y,cc C k=y:=⟨_,rfl⟩
    rw [hy] at hci hsm
    obtain ⟨x,hxe⟩:∃x,AG C k=x:=⟨_,rfl⟩
    have HX:=AC hxe
    rw [hxe] at hci hx
    subst hci
    clear hxe hy
    repeat' (first
     | refine QF 11 ?_|refine X0 ?_|refine Jo ?_|refine X6 13 ?_ ?_<;>intro hB<;>(try exact AU)<;>go_step|refine X2 ?_|refine Gg ?_|refine X4 ?_|refine AF ?_;go_step|fail)
    go_roundg (gk-1)
    case measure=>omega
    case rel=>exact ⟨k+1,by omega,by go_num,by rw [hsm.out];go_num,HA2,by rw [hsm.out];omega,hS⟩
   obtain ⟨x,hxe⟩:∃x,AG C k=x:=⟨_,rfl⟩
   have HX:=AC hxe
   rw [hxe] at hx
   have hx2:x<0∨256<x:=by omega
   clear hxe hx
   repeat' (first
    | (refine AH 11 ?_);refine AT (.int .i64 x) (V.as (V.indexIv Tryz.underlying83 Tryz.underlying3 Bg rfl rfl hC Au.cast (by omega)) HX.out) AA ?_;go_step|go_big_skip|refine X0 ?_|refine QD ?_|refine X6 13 ?_ ?_<;>intro hB<;>(try exact AU)<;>go_step|refine X2 ?_|refine Gg ?_|refine AF ?_;go_step|fail)
   all_goals
    refine AJ (xs:=[_,_]) rfl (.cons (AD.tmp rfl) (.cons (AD.tmp rfl) (.nil))) (by simp) rfl ?_
    exact ⟨_,rfl,hS.1⟩
  obtain rfl:k=16:=by omega
  have hgt:256<sm (cc C) 16:=by
   have:=HB.out
   have h2:=HA.out
   by_cases h3:sm (cc C) 16≤256
   ·exact absurd ⟨h2,h3⟩ this
   omega
  repeat' (first
   | refine X0 ?_|refine X2 ?_|refine Qz ?_|refine AF ?_;go_step|fail)
  refine AJ (xs:=[_,_]) rfl (.cons (AD.tmp rfl) (.cons (AD.tmp rfl) (.nil))) (by simp) rfl ?_
  exact ⟨_,Ho (decide_eq_false (by omega)),hS.1⟩
def Gw(l:List Int)(s:Int):Option Value:=if s∈l then some (.bool true) else none
theorem LW(S:List Int)(k:Nat)(hk:k<S.length):(fun j=>if j=AG S k then some (Value.bool true) else Gw (S.take k) j)=Gw (S.take (k+1)):=by
 funext j
 have e:S.take (k+1)=S.take k++[AG S k]:=by rw [List.take_add_one,CD S k hk];rfl
 unfold Gw
 rw [e]
 by_cases h:j=AG S k
 ·simp [h]
 simp [h]
theorem O0(S:List Int)(k:Nat)(h:k<S.length):AG S k∈S:=List.mem_of_getElem? (CD S k h)
theorem KA(S:List Int)(k:Nat)(hk:k<S.length):(S.take (k+1)).Nodup↔(S.take k).Nodup∧AG S k∉S.take k:=by
 have e:S.take (k+1)=S.take k++[AG S k]:=by rw [List.take_add_one,CD S k hk];rfl
 rw [e,List.nodup_append]
 constructor
 ·intro h;exact ⟨h.1,fun hm=>h.2.2 _ hm _ (by simp) rfl⟩
 intro h;refine ⟨h.1,by simp,fun a ha b hb=>?_⟩
 simp only [List.mem_singleton] at hb
 subst hb
 intro e;subst e;exact h.2 ha
theorem E0(w0:World)(C S:List Int)(ad:Option Addr)(n c:Nat)(hC:A4 C 16)(hv:Sl w0 1 (.slice ad n c) n (S.map (Value.int .i64)))(hn:n≤9223372036854775807):
 Calls Tryz.prog 101 #[tv C (.slice ad n c)] w0 fun e w=>e= .returned (.int .i64 (BL C S))∧AP w0 w:=by
 have hSl:S.length=n:=by have:=hv.1;simpa using this
 have HSl:=AC hSl
 clear hSl
 have hS:=St.start w0
 by_cases ht:FM C=true
 case neg=>
  have hE:=AC (show BL C S=4 by unfold BL;rw [if_neg (fun h=>ht h.1)])
  have ht2:=AC (show FM C=false by simpa using ht)
  clear ht
  go_enter Tryz.func101,Tryz.ntmps101
  repeat' (first
   | (refine Ar 114 ?_);refine As AA Tryz.call114 (Nv _ C _ hC ht2.out) ?_;rintro e w ⟨z,rfl,hE2⟩;replace hS:=hS.ext hE2;clear hE2;refine A2 ?_;go_step|go_skip|refine X0 ?_|refine X7 ?_|refine P9 18 ?_ ?_<;>intro hB<;>(try exact O3 hB)<;>go_step|refine X9 ?_|refine Mj 1 ?_;clear hS;intro g1 w hS|refine OH ?_|refine AF ?_;go_step|fail)
  refine Co rfl (AD.tmp rfl) rfl ?_
  exact ⟨(by rw [hE.out];first|done|rfl),hS.1⟩
 have HT:=AC ht
 clear ht
 by_cases hs:sm (cc C) 16=n
 case neg=>
  have hE:=AC (show BL C S=4 by unfold BL;rw [if_neg (fun h=>hs (h.2.trans HSl.out))])
  obtain ⟨t,ht⟩:∃t,sm (cc C) 16=t:=⟨_,rfl⟩
  rw [ht] at hs
  have HT2:=AC ht
  clear ht
  go_enter Tryz.func101,Tryz.ntmps101
  repeat' (first
   | (refine Ar 114 ?_);refine As AA Tryz.call114 (H0 _ C _ hC HT.out) ?_;rintro e w ⟨rfl,hE2⟩;rw [HT2.out];replace hS:=hS.ext hE2;clear hE2;refine A2 ?_;go_step|refine X0 ?_|refine Jo ?_|refine P9 18 ?_ ?_<;>intro hB<;>(try exact O3 hB)<;>go_step|refine X9 ?_|refine RV ?_|refine Q3 ?_|refine Q1 ?_|refine Mj 1 ?_;clear hS;intro g1 w hS|refine OH ?_|refine Q7 ?_|refine AF ?_;go_step|fail)
  refine Co rfl (AD.tmp rfl) rfl ?_
  exact ⟨(by rw [hE.out];first|done|rfl),hS.1⟩
 have h256:n≤256:=by
  have:=(CV C).1 HT.out
  omega
 have HS2:=AC hs
 have HE:=AC (show BL C S=if Jc S then if S.Nodup∧JX (cc C)=true then 0 else 4 else 1 by unfold BL;rw [if_pos ⟨HT.out,hs.trans HSl.out.symm⟩])
 clear hs
 go_enter Tryz.func101,Tryz.ntmps101
 repeat' (first
  | (refine Ar 114 ?_);refine As AA Tryz.call114 (H0 _ C _ hC HT.out) ?_;rintro e w ⟨rfl,hE2⟩;rw [HS2.out];replace hS:=hS.ext hE2;clear hE2;refine A2 ?_;go_step|refine X0 ?_|refine Jo ?_|refine P9 18 ?_ ?_<;>intro hB<;>(try exact O3 hB)<;>go_step|refine X9 ?_|refine RV ?_|refine Q3 ?_|refine Q1 ?_|refine Mj 1 ?_;clear hS;intro g1 w hS|refine OH ?_|refine Q7 ?_|(refine AH 26 ?_);(refine At ?_;apply DQ (o:=⟨some 26,_,_,_,_,_⟩) ik hS 158 rfl;clear hS;intro g26 w hS;refine AB ?_;go_step)|refine AF ?_;go_step|fail)
 go_loopg [6,30] n (fun gk bv kv w=>∃(k:Nat) (b:Bool),gk+k=n∧kv= .int .i64 k∧bv= .bool b∧Hid (b=true↔¬(S.take k).Nodup)∧Hid (∀j,j<k→0≤AG S j∧AG S j<256)∧St w0 w [mp ik g26 (Gw (S.take k)),prt g1 [.ints C, .val (.slice ad n c)]])
 case atStart=>exact ⟨0,false,rfl,rfl,rfl,AC (by simp),AC (fun j hj=>absurd hj (by omega)),(by rw [show Gw (S.take 0)=fun _=>none from (by funext s;simp [Gw])];exact hS)⟩
 case round=>
  clear hS
  obtain ⟨k,b,hk,rfl,rfl,HB,HR,hS⟩:=hrel
  by_cases hlt:k<n
  ·have hk2:=AC (show k<S.length by rw [HSl.out];exact hlt)
   have HF:=AC (LW S k hk2.out)
   have HN:=AC (KA S k hk2.out)
   obtain ⟨x,hx⟩:∃x,AG S k=x:=⟨_,rfl⟩
   have HX:=AC hx
   rw [hx] at HF HN
   clear hx
   by_cases hr:0≤x∧x<256
   ·have HR2:Hid (∀j,j<k+1→0≤AG S j∧AG S j<256):=AC fun j hj=>by
     by_cases hjk:j<k
     ·exact HR.out j hjk
     obtain rfl:j=k:=by omega
     rw [HX.out];exact hr
    by_cases hm:x∈S.take k
    ·have hf:Gw (S.take k) x=some (.bool true):=by rw [Gw,if_pos hm]
     have HB2:Hid (true=true↔¬(S.take (k+1)).Nodup):=AC (by rw [HN.out];simp [hm])
     clear HN hm
     cases b
     all_goals
      repeat' (first
       | (refine AH 32 ?_);refine DR hv Tryz.underlying46 Bg rfl rfl Au.cast (by omega) AA ?_;rw [HX.out];intro b32 o32 hc32;go_step|go_big_skip|refine X0 ?_|refine QD ?_|refine X6 35 ?_ ?_<;>intro hB<;>(try exact AU)<;>go_step|refine X2 ?_|refine RU ?_|refine X4 ?_|refine OF ?_|(refine AH 44 ?_);(refine At ?_;apply DP (enc:=ik) hS 158 _ _ rfl _ rfl _ rfl Tryz.underlying158 (BD Tryz.underlying3) (.bool false) (fun w=>Tryz.zeroValue4 w) _;(case hp=>exact AQ);(case hf=>with_reducible assumption);refine AB ?_;go_step)|refine Rz ?_;clear hS;intro w hS|refine AF ?_;go_step|fail)
      go_roundg (gk-1)
      case measure=>omega
      case rel=>exact ⟨k+1,true,by omega,by go_num,rfl,HB2,HR2,by rw [←HF.out];exact hS.sub Ad⟩
    have hf:Gw (S.take k) x=none:=by rw [Gw,if_neg hm]
    have HB2:Hid (b=true↔¬(S.take (k+1)).Nodup):=AC (by rw [HN.out,HB.out];simp [hm])
    clear HN hm
    cases b
    all_goals
     repeat' (first
      | (refine AH 32 ?_);refine DR hv Tryz.underlying46 Bg rfl rfl Au.cast (by omega) AA ?_;rw [HX.out];intro b32 o32 hc32;go_step|go_big_skip|refine X0 ?_|refine QD ?_|refine X6 35 ?_ ?_<;>intro hB<;>(try exact AU)<;>go_step|refine X2 ?_|refine RU ?_|refine X4 ?_|refine OF ?_|(refine AH 44 ?_);(refine At ?_;apply ER (enc:=ik) hS 158 _ _ rfl _ rfl _ rfl Tryz.underlying158 (BD Tryz.underlying3) (.bool false) (fun w=>Tryz.zeroValue4 w) _;(case hp=>exact AQ);(case hf=>with_reducible assumption);refine AB ?_;go_step)|refine Rz ?_;clear hS;intro w hS|refine AF ?_;go_step|fail)
     go_roundg (gk-1)
     case measure=>omega
     case rel=>exact ⟨k+1,_,by omega,by go_num,rfl,HB2,HR2,by rw [←HF.out];exact hS.sub Ad⟩
   have hE4:Hid (BL C S=1):=AC (by
    rw [HE.out,if_neg]
    intro h
    have:=List.all_eq_true.1 h x (by rw [←HX.out];exact O0 S k hk2.out)
    simp at this;omega)
   clear HF HN
   have hr2:x<0∨256≤x:=by omega
   clear hr
   repeat' (first
    | (refine AH 32 ?_);refine DR hv Tryz.underlying46 Bg rfl rfl Au.cast (by omega) AA ?_;rw [HX.out];intro b32 o32 hc32;go_step|go_big_skip|refine X0 ?_|refine QD ?_|refine X6 35 ?_ ?_<;>intro hB<;>(try exact AU)<;>go_step|refine X2 ?_|refine RU ?_|refine OF ?_|refine AF ?_;go_step|fail)
   all_goals
    refine Co rfl (AD.tmp rfl) rfl ?_
    exact ⟨(by rw [hE4.out];first|done|rfl),hS.1⟩
  obtain rfl:k=n:=by omega
  have hall:Jc S=true:=by
   rw [Jc,List.all_eq_true]
   intro s hs
   obtain ⟨j,hj,rfl⟩:=List.getElem_of_mem hs
   have:=HR.out j (by rw [←HSl.out];exact hj)
   simp [AG,List.getD,hj] at this
   simpa using this
  have htk:S.take k=S:=by rw [←HSl.out];exact List.take_length
  have HB3:Hid (b=true↔¬S.Nodup):=AC (by have:=HB.out;rwa [htk] at this)
  have HE3:Hid (BL C S=if S.Nodup∧JX (cc C)=true then 0 else 4):=AC (by rw [HE.out,if_pos hall])
  have HCp:=AC ((CV C).1 HT.out).1
  clear hall htk HB HE HR
  repeat' (first
   | refine X0 ?_|refine X2 ?_|refine Q5 ?_|refine Q8 ?_|refine AF ?_;go_step|fail)
  go_loopg [9,51] 16 (fun gk nv kv w=>∃(i:Nat),gk+i=16∧kv= .int .i64 i∧nv= .int .i64 (nx (cc C) i:Nat)∧nx (cc C) i<2^i∧Hid (∀j,j<i→nx (cc C) (j+1)<2^(j+1))∧Hid (0<i→b=false)∧St w0 w [])
  case atStart=>exact ⟨0,rfl,rfl,rfl,by simp [nx],AC (fun j hj=>absurd hj (by omega)),AC (fun h=>absurd h (by omega)),hS.sub Ad⟩
  case round=>
   clear hS
   obtain ⟨i,hi,rfl,rfl,hlt2,HA,HZ,hS⟩:=hrel
   by_cases hlt:i<16
   ·have hx:=HCp.out i hlt
    have hci:=IL C i hx.1
    have HNx:=AC (show nx (cc C) (i+1)=2*nx (cc C) i+cc C i from rfl)
    obtain ⟨y,hy⟩:∃y,cc C i=y:=⟨_,rfl⟩
    rw [hy] at hci HNx
    have HX:=AC hci
    have hy2:y≤256:=by omega
    obtain ⟨p,hp⟩:∃p,p=2^i:=⟨_,rfl⟩
    have hp2:p≤32768:=by rw [hp];exact Nat.pow_le_pow_right (n:=2) (j:=15) (by omega) (by omega)
    obtain ⟨z,hz⟩:∃z,nx (cc C) i=z:=⟨_,rfl⟩
    rw [←hp] at hlt2
    have HP:Hid ((2:Int)^(i+1)=((2*p:Nat):Int)):=AC (by rw [hp,Int.pow_succ];push_cast;omega)
    have HP2:Hid (2^(i+1)=2*p):=AC (by rw [hp,Nat.pow_succ];omega)
    rw [hz] at hlt2 HNx⊢
    clear hci hy hp hz hx
    by_cases hbad:b=true∨2*p≤2*z+y
    ·have hE4:Hid (BL C S=4):=AC (by
      rw [HE3.out,if_neg]
      rintro ⟨h1,h2⟩
      rcases hbad with h|h
      ·exact (HB3.out.1 h) h1
      have:=(Dp _).1 h2 i hlt
      rw [HNx.out,HP2.out] at this;omega)
     have hbad2:b=false→2*p≤2*z+y:=fun h=>by
      rcases hbad with h'|h'
      ·rw [h] at h';cases h'
      exact h'
     clear hbad
     cases b
     ·replace hbad2:=hbad2 rfl
      repeat' (first
       | refine QF 54 ?_|refine Rc 56 ?_|refine Rb 58 ?_|(refine AH 64 ?_);(refine AT (.int _ (((2*p:Nat):Int))) (V.as (V.shl1 rfl rfl BY (by omega)) (by exact HP.out)) (by kernel_rfl) ?_;go_step)|refine X0 ?_|refine Jo ?_|refine X2 ?_|refine X4 ?_|refine QB ?_|refine Gg ?_|refine AF ?_;go_step|fail)
      refine Co rfl (AD.tmp rfl) rfl ?_
      exact ⟨(by rw [hE4.out];first|done|rfl),hS.1⟩
     clear hbad2
     repeat' (first
      | refine QF 54 ?_|refine Rc 56 ?_|refine Rb 58 ?_|go_big_skip|refine X0 ?_|refine X7 ?_|refine X2 ?_|refine AF ?_;go_step|fail)
     refine Co rfl (AD.tmp rfl) rfl ?_
     exact ⟨(by rw [hE4.out];first|done|rfl),hS.1⟩
    obtain rfl:b=false:=by cases b<;>simp_all
    have hgood:2*z+y<2*p:=by
     by_cases h:2*p≤2*z+y
     ·exact absurd (.inr h) hbad
     omega
    have HA2:Hid (∀j,j<i+1→nx (cc C) (j+1)<2^(j+1)):=AC fun j hj=>by
     by_cases hji:j<i
     ·exact HA.out j hji
     obtain rfl:j=i:=by omega
     rw [HNx.out,HP2.out];exact hgood
    clear hbad
    repeat' (first
     | refine QF 54 ?_|refine Rc 56 ?_|refine Rb 58 ?_|(refine AH 64 ?_);(refine AT (.int _ (((2*p:Nat):Int))) (V.as (V.shl1 rfl rfl BY (by omega)) (by exact HP.out)) (by kernel_rfl) ?_;go_step)|refine X0 ?_|refine Jo ?_|refine X2 ?_|refine X4 ?_|refine QB ?_|refine Gg ?_|refine AF ?_;go_step|fail)
    go_roundg (gk-1)
    case measure=>omega
    case rel=>exact ⟨i+1,by omega,by go_num,by rw [HNx.out],by rw [HNx.out,HP2.out];exact hgood,HA2,AC (fun _=>rfl),hS⟩
   obtain rfl:i=16:=by omega
   have hE0:Hid (BL C S=0):=AC (by
    rw [HE3.out,if_pos]
    refine ⟨?_,(Dp _).2 HA.out⟩
    have h1:=HZ.out (by omega)
    have h2:=HB3.out
    rw [h1] at h2
    simpa using h2)
   repeat' (first
    | refine X8 ?_|refine X2 ?_|refine AF ?_;go_step|fail)
   refine Co rfl (AD.tmp rfl) rfl ?_
   exact ⟨(by rw [hE0.out];first|done|rfl),hS.1⟩
theorem PT(c:Nat→Nat)(k:Nat):∀d,sm c k≤sm c (k+d)
 | 0=>Nat.le_refl _
 | d+1=>by have:=PT c k d;rw [←Nat.add_assoc,sm];omega
theorem Qk(c:Nat→Nat)(k:Nat)(hk:k≤16)(h:nx c 16<65536):nx c k<65536:=by
 have:=NZ c k (16-k)
 rw [show k+(16-k)=16 by omega] at this
 have h2:nx c k*1≤nx c k*2^(16-k):=Nat.mul_le_mul_left _ (Nat.two_pow_pos _)
 omega
theorem Jk(w0:World)(C S:List Int)(ad:Option Addr)(n c:Nat)(hC:A4 C 16)(hv:Sl w0 1 (.slice ad n c) n (S.map (Value.int .i64)))(hn:n≤9223372036854775807)(hok:BL C S=0):
 Calls Tryz.prog 102 #[tv C (.slice ad n c)] w0 fun e w=>∃a' c',e= .returned (.slice a' n c')∧St w0 w [own 120 3 a' n c' ((KX (CA C S)).map (Value.int .i64))]:=by
 have hSl:S.length=n:=by have:=hv.1;simpa using this
 obtain ⟨hb,h16,h256,_,_,hroom⟩:=DN hok
 rw [hSl] at h256 h16
 have hnx:=AC ((Dq _).1 hroom)
 have HSl:=AC hSl
 have HB:=AC hb
 have H16:=AC h16
 clear hSl hb h16 hroom hok
 have hS:=St.start w0
 go_enter Tryz.func102,Tryz.ntmps102
 repeat' (first
  | refine X0 ?_|refine Q5 ?_|refine Mj 1 ?_;clear hS;intro g1 w hS|refine Q8 ?_|refine AF ?_;go_step|fail)
 replace hS:=hS.nilk 120 3 .i64
 go_loopg [3,4,9] 16 (fun gk ov nv kv w=>∃(k m q:Nat) (a':Option Addr) (c':Nat),gk+k=16∧kv= .int .i64 k∧q=nx (cc C) k∧nv= .int .i64 q∧m=sm (cc C) k∧m≤n∧ov= .slice a' m c'∧St w0 w [own 120 3 a' m c' ((KX (S.zip (Dh (cc C) k))).map (Value.int .i64)),prt g1 [.ints C, .val (.slice ad n c)]])
 case atStart=>exact ⟨0,0,0,none,0,rfl,rfl,rfl,rfl,rfl,by omega,rfl,by rw [show KX (S.zip (Dh (cc C) 0))=[] by simp [Dh,KX]];exact hS.sub Ad⟩
 case round=>
  clear hS
  obtain ⟨k,m,q,a',c',hk,rfl,hq,rfl,hm,hmn,rfl,hS⟩:=hrel
  by_cases hlt:k<16
  ·have hx:=HB.out k hlt
   have hci:=IL C k hx.1
   have HNx:=AC (show nx (cc C) (k+1)=2*nx (cc C) k+cc C k from rfl)
   have HSm:=AC (show sm (cc C) (k+1)=sm (cc C) k+cc C k from rfl)
   have hsl:sm (cc C) (k+1)≤n:=by have:=PT (cc C) (k+1) (15-k);rw [show k+1+(15-k)=16 by omega,H16.out] at this;exact this
   have hnl:=Qk (cc C) (k+1) (by omega) hnx.out
   have HCd:=AC (show Dh (cc C) (k+1)=Dh (cc C) k++(List.range (cc C k)).map (fun j=>(k+1,2*nx (cc C) k+j)) from rfl)
   obtain ⟨y,hy⟩:∃y,cc C k=y:=⟨_,rfl⟩
   rw [hy] at hci HNx HSm HCd
   rw [HSm.out,←hm] at hsl
   rw [HNx.out,←hq] at hnl
   have HX:=AC hci
   have HQ:=AC hq
   have HM:=AC hm
   have hy2:y≤256:=by omega
   clear hci hy hx hq hm
   repeat' (first
    | refine QF 12 ?_|(refine AH 14 ?_);(refine AT (.int _ (((2*q:Nat):Int))) (V.as (V.shlI rfl rfl BY (by omega) (by omega)) (by omega)) (by kernel_rfl) ?_;go_step)|refine X0 ?_|refine X2 ?_|refine AF ?_;go_step|fail)
   obtain ⟨gk1,hgk1⟩:∃x,x=gk:=⟨_,rfl⟩
   subst hgk1
   go_loopg [3,4,16] y (fun gk ov nv kv w=>∃(j M:Nat) (a':Option Addr) (c':Nat) (L:List (Nat×Nat)),gk+j=y∧M=m+j∧kv= .int .i64 j∧nv= .int .i64 (2*q+j:Nat)∧Hid (L=Dh (cc C) k++(List.range j).map (fun i=>(k+1,2*q+i)))∧ov= .slice a' M c'∧St w0 w [own 120 3 a' M c' ((KX (S.zip L)).map (Value.int .i64)),prt g1 [.ints C, .val (.slice ad n c)]])
   case atStart=>exact ⟨0,m,a',c',_,rfl,rfl,rfl,rfl,AC rfl,rfl,by rw [List.range_zero,List.map_nil,List.append_nil];exact hS.sub Ad⟩
   case round=>
    clear hS
    obtain ⟨j,M,a2,c2,L,hj,hM,rfl,rfl,HL,rfl,hS⟩:=hrel
    by_cases hlt2:j<y
    ·have HLl:Hid (L.length=M):=AC (by rw [HL.out,List.length_append,DD];simp;have:=HM.out;omega)
     have HSn:Hid (KX (S.zip (L++[(k+1,2*q+j)]))=KX (S.zip L)++[AG S M,((k+1:Nat):Int),((2*q+j:Nat):Int)]):=AC (by
      rw [OA S L _ (by rw [HLl.out,HSl.out];omega),Nz,HLl.out])
     have HL2:Hid (L++[(k+1,2*q+j)]=Dh (cc C) k++(List.range (j+1)).map (fun i=>(k+1,2*q+i))):=AC (by
      rw [HL.out,List.range_succ,List.map_append,List.append_assoc];rfl)
     repeat' (first
      | refine QQ 26 ?_|(refine AH 32 ?_);(refine AT (.int _ (((2*q+(j+1):Nat):Int))) (V.as (V.addI rfl rfl (by omega)) (by omega)) (by kernel_rfl) ?_;go_step)|refine X0 ?_|refine X2 ?_|refine RV ?_|(with_reducible refine Ap _ (.call ⟨.builtin .len,_,_⟩) ?_);(refine AR AA (V.len Tryz.underlying116 rfl) ?_;go_step)|refine QA 23 ?_;intro b23 o23 hc23;go_step|refine X4 ?_|(refine AH 28 ?_);(refine AR AA (V.build (vs:=[(0,_),(1,_),(2,_)]) rfl (I3 _ _ _)) ?_;go_step)|refine Q7 ?_|refine OF ?_|(refine AH 29 ?_);(refine At ?_;apply Ae (o:=⟨some 29,_,_,_,_,_⟩) hS 116 1 _ rfl 120 3 24 PM _ _;(case hvs=>(repeat (first|exact AV.nil|(apply AV.agg;(rfl);(rfl))|(apply AV.one;exact D0;(rfl);(rfl)))));(case hn=>rfl);(case hn0=>decide);(case hns=>decide);clear hS;intro g29 w hS;simp only [List.cons_append,List.nil_append] at hS;refine AB ?_;go_step)|(refine AH 30 ?_);(refine At ?_;apply AY (o:=⟨some 30,_,_,_,_,_⟩) hS _ _ 116 rfl 120 3 24 PM _ _ _ _ rfl;(case hp=>exact AQ);(case hx=>exact rfl);(case hm=>(first|exact hS.slBlk AQ (by rfl) (by decide)|exact hS.sl AQ|with_reducible assumption|exact Sl.ext (by with_reducible assumption) hS.1|exact Sl.nil _ _|exact Sl.ext (by assumption) hS.1|assumption));(case h1=>(first|exact BJ rfl|exact GF _ _|(intro u hu;cases hu)));(case h63=>unfold maxLen;omega);(case hb=>omega);clear hS;intro ad30 c30 w hS;(first|simp only [B4] at hS|simp only [B5] at hS|simp only [B6] at hS|simp only [B7] at hS|simp only [B8] at hS|skip);refine AB ?_;go_step)|refine AF ?_;go_step|fail)
     go_roundg (gk-1)
     case measure=>omega
     case rel=>
      refine ⟨j+1,M+1,_,_,L++[(k+1,2*q+j)],by omega,by omega,by go_num,rfl,HL2,rfl,?_⟩
      rw [HSn.out]
      exact hS.sub Ad
    obtain rfl:j=y:=by omega
    have HL3:Hid (L=Dh (cc C) (k+1)):=AC (by rw [HL.out,HCd.out,HQ.out])
    repeat' (first
     | refine X1 ?_|refine X2 ?_|refine X4 ?_|refine AF ?_;go_step|fail)
    go_roundg (gk1-1)
    case measure=>omega
    case rel=>
     refine ⟨k+1,M,2*q+j,_,_,by omega,by go_num,by rw [HNx.out,HQ.out],rfl,by rw [HSm.out,hM,HM.out],by omega,rfl,?_⟩
     rw [←HL3.out]
     exact hS.sub Ad
  obtain rfl:k=16:=by omega
  have hmn2:m=n:=by rw [hm,H16.out]
  subst hmn2
  repeat' (first
   | refine X0 ?_|refine X2 ?_|refine AF ?_;go_step|fail)
  go_ret
  refine ⟨_,_,rfl,?_⟩
  unfold CA
  exact hS.sub Ad
def EB(w0:World)(C S:List Int)(e:Ending)(w:World):Prop:=
 ∃a' n' c',n'=(if BL C S=0 then S.length else 0)∧e= .returned (.tuple #[.slice a' n' c', .int .i64 (BL C S)])∧St w0 w [own 120 3 a' n' c' ((if BL C S=0 then KX (CA C S) else []).map (Value.int .i64))]
theorem ME(w0:World)(C S:List Int)(ad:Option Addr)(n c:Nat)(hC:A4 C 16)(hv:Sl w0 1 (.slice ad n c) n (S.map (Value.int .i64)))(hn:n≤9223372036854775807):
 Calls Tryz.prog 77 #[tv C (.slice ad n c)] w0 (EB w0 C S):=by
 have hSl:S.length=n:=by have:=hv.1;simpa using this
 have HSl:=AC hSl
 clear hSl
 have hS:=St.start w0
 obtain ⟨E,hE⟩:∃E,BL C S=E:=⟨_,rfl⟩
 have HE:=AC hE
 clear hE
 by_cases h0:E=0
 ·subst h0
  have hck:=E0 w0 C S ad n c hC hv hn
  rw [HE.out] at hck
  have HCk:=AC hck
  clear hck
  go_enter Tryz.func77,Tryz.ntmps77
  repeat' (first
   | (refine Ar 101 ?_);refine As AA Tryz.call101 (E0 _ C S ad n c hC (hv.ext hS.1) hn) ?_;rintro e w ⟨rfl,hE2⟩;rw [HE.out];replace hS:=hS.ext hE2;clear hE2;refine A2 ?_;go_step|(refine Ar 102 ?_);refine As AA Tryz.call102 (Jk _ C S ad n c hC (hv.ext hS.1) hn HE.out) ?_;rintro e w ⟨a2,c2,rfl,hS2⟩;replace hS:=hS.call1 hS2;clear hS2;refine A2 ?_;go_step|refine X0 ?_|refine LA ?_|refine Mj 1 ?_;clear hS;intro g1 w hS|refine OH ?_|refine AF ?_;go_step|fail)
  refine AJ (xs:=[_,_]) rfl (.cons (AD.tmp rfl) (.cons (AD.tmp rfl) (.nil))) (by simp) rfl ?_
  refine ⟨a2,n,c2,by rw [if_pos HE.out,HSl.out],?_,?_⟩
  ·rw [HE.out];rfl
  rw [if_pos HE.out];exact hS.sub Ad
 go_enter Tryz.func77,Tryz.ntmps77
 repeat' (first
  | (refine Ar 101 ?_);refine As AA Tryz.call101 (E0 _ C S ad n c hC (hv.ext hS.1) hn) ?_;rintro e w ⟨rfl,hE2⟩;rw [HE.out];replace hS:=hS.ext hE2;clear hE2;refine A2 ?_;go_step|refine X0 ?_|refine LA ?_|refine Mj 1 ?_;clear hS;intro g1 w hS|refine OH ?_|refine AF ?_;go_step|fail)
 refine AJ (xs:=[_,_]) rfl (.cons (AD.tmp rfl) (.cons (AD.tmp rfl) (.nil))) (by simp) rfl ?_
 refine ⟨none,0,0,by rw [if_neg (by rw [HE.out];exact h0)],?_,?_⟩
 ·rw [HE.out];rfl
 rw [if_neg (by rw [HE.out];exact h0)];exact (St.of_ext hS.1).nil _ _
theorem AD.prt{P:Program}{W w:World}{rs rs':List Ak}{tmps:Array Value}{p g n:Nat}{ty:TypeId}{ps:List AO}(hS:St W w rs)(hp:tmps.getD p undef= .pointer (some ⟨g,0,none⟩))(h1:DB P ty n)(pl:AL (Go.Proofs.YtngojkompmcceaaGreatDoor.prt g ps) rs rs')(hn:FF ps n ps):AD P tmps w (.cell p ty) (.agg (AE ps).toArray):=
 AD.blk hS hp h1 pl hn.take.2
end Go.Proofs.YtngojkompmcceaaGreatDoor
