/- What the laws DeskErrors need, part 7. -/
import Derived.Test.YtngojkompmcceaaGreatDoorBaseEZ2
import Derived.Test.YtngojkompmcceaaGreatDoorBaseEZ6
namespace Go.Proofs.YtngojkompmcceaaGreatDoor
attribute [local irreducible] Region.wanted
open Go.RowKit
set_option linter.unusedVariables false
set_option maxRecDepth 100000
set_option maxHeartbeats 8000000
theorem H2(m0:Int)(m1:Int)(m2:Int)(w:World):(Instr.build 120 #[(0, .int .i64 m0),(1, .int .i64 m1),(2, .int .i64 m2)]).run Tryz.prog w= .ok (.agg #[.int .i64 m0, .int .i64 m1, .int .i64 m2]) w:=by kernel_rfl
abbrev tv(C:List Int)(v:Value):Value:= .agg (AE [.ints C, .val v]).toArray
theorem Gv(C:List Int)(k:Nat)(h:0≤AG C k):AG C k=((cc C k:Nat):Int):=by unfold cc;omega
theorem Ga{a:Value}{x y:Bool}(h:x=y):Ending.returned (.tuple #[a, .bool x])= .returned (.tuple #[a, .bool y]):=by rw [h]
theorem Gj(w0:World)(C:List Int)(v:Value)(hC:A2 C 16)(h:E0 C=true):Calls Tryz.prog 114 #[tv C v] w0 fun e w=>e= .returned (.tuple #[.int .i64 (sm (cc C) 16:Nat), .bool true])∧AP w0 w:=by
 obtain ⟨hb,h16⟩:=(CG C).1 h
 have HB:=AD hb
 clear hb h
 have hS:=St.start w0
 go_enter Tryz.func114,Tryz.ntmps114
 repeat' (first
  | refine X0 ?_|refine PY ?_|refine LM 1 ?_;clear hS;intro g1 w hS|refine Pb ?_|refine AF ?_;go_step|fail)
 go_loopg [4,9] 16 (fun gk av kv w=>∃k:Nat,gk+k=16∧kv= .int .i64 k∧av= .int .i64 (sm (cc C) k:Nat)∧sm (cc C) k≤256*k∧St w0 w [])
 case atStart=>exact ⟨0,rfl,rfl,rfl,by simp [sm],hS.sub Ae⟩
 case round=>
  clear hS
  obtain ⟨k,hk,rfl,rfl,hs,hS⟩:=hrel
  by_cases hlt:k<16
  ·have hx:=HB.out k hlt
   have hsm:=AD (show sm (cc C) (k+1)=sm (cc C) k+cc C k from rfl)
   have hci:=Gv C k hx.1
   obtain ⟨y,hy⟩:∃y,cc C k=y:=⟨_,rfl⟩
   rw [hy] at hci hsm
   obtain ⟨x,hxe⟩:∃x,AG C k=x:=⟨_,rfl⟩
   have HX:=AD hxe
   rw [hxe] at hci hx
   subst hci
   clear hxe hy
   repeat' (first
    | refine Ol 11 ?_|refine X0 ?_|refine Jc ?_|refine X4 13 ?_ ?_<;>intro hB<;>(try exact Ak)<;>go_step|refine X3 ?_|refine X9 ?_|refine X5 ?_|refine AF ?_;go_step|fail)
   go_roundg (gk-1)
   case measure=>omega
   case rel=>exact ⟨k+1,by omega,by go_num,by rw [hsm.out];go_num,by rw [hsm.out];omega,hS⟩
  obtain rfl:k=16:=by omega
  repeat' (first
   | refine X0 ?_|refine X3 ?_|(with_reducible refine Al _ (.binOp .leq _ _ _ _) ?_);(refine AY AA (V.leq rfl rfl) ?_;go_step)|refine AF ?_;go_step|fail)
  refine AI (xs:=[_,_]) rfl (.cons (AC.tmp rfl) (.cons (AC.tmp rfl) (.nil))) (by simp) rfl ?_
  exact ⟨Ga (decide_eq_true (by omega)),hS.1⟩
theorem MN(w0:World)(C:List Int)(v:Value)(hC:A2 C 16)(h:E0 C=false):Calls Tryz.prog 114 #[tv C v] w0 fun e w=>∃z,e= .returned (.tuple #[.int .i64 z, .bool false])∧AP w0 w:=by
 have hb:¬((∀k,k<16→0≤AG C k∧AG C k≤256)∧sm (cc C) 16≤256):=by rw [←CG,h];simp
 have HB:=AD hb
 clear hb h
 have hS:=St.start w0
 go_enter Tryz.func114,Tryz.ntmps114
 repeat' (first
  | refine X0 ?_|refine PY ?_|refine LM 1 ?_;clear hS;intro g1 w hS|refine Pb ?_|refine AF ?_;go_step|fail)
 go_loopg [4,9] 16 (fun gk av kv w=>∃k:Nat,gk+k=16∧kv= .int .i64 k∧av= .int .i64 (sm (cc C) k:Nat)∧Hid (∀j,j<k→0≤AG C j∧AG C j≤256)∧sm (cc C) k≤256*k∧St w0 w [])
 case atStart=>exact ⟨0,rfl,rfl,rfl,AD (fun j hj=>absurd hj (by omega)),by simp [sm],hS.sub Ae⟩
 case round=>
  clear hS
  obtain ⟨k,hk,rfl,rfl,HA,hs,hS⟩:=hrel
  by_cases hlt:k<16
  ·have hsm:=AD (show sm (cc C) (k+1)=sm (cc C) k+cc C k from rfl)
   by_cases hx:0≤AG C k∧AG C k≤256
   ·have hci:=Gv C k hx.1
    have HA2:Hid (∀j,j<k+1→0≤AG C j∧AG C j≤256):=AD fun j hj=>by
     by_cases hjk:j<k
     ·exact HA.out j hjk
     obtain rfl:j=k:=by omega
     exact hx
    obtain ⟨y,hy⟩:∃y,cc C k=y:=⟨_,rfl⟩
    rw [hy] at hci hsm
    obtain ⟨x,hxe⟩:∃x,AG C k=x:=⟨_,rfl⟩
    have HX:=AD hxe
    rw [hxe] at hci hx
    subst hci
    clear hxe hy
    repeat' (first
     | refine Ol 11 ?_|refine X0 ?_|refine Jc ?_|refine X4 13 ?_ ?_<;>intro hB<;>(try exact Ak)<;>go_step|refine X3 ?_|refine X9 ?_|refine X5 ?_|refine AF ?_;go_step|fail)
    go_roundg (gk-1)
    case measure=>omega
    case rel=>exact ⟨k+1,by omega,by go_num,by rw [hsm.out];go_num,HA2,by rw [hsm.out];omega,hS⟩
   obtain ⟨x,hxe⟩:∃x,AG C k=x:=⟨_,rfl⟩
   have HX:=AD hxe
   rw [hxe] at hx
   have hx2:x<0∨256<x:=by omega
   clear hxe hx
   repeat' (first
    | (refine AM 11 ?_);refine AR (.int .i64 x) (V.as (V.indexIv Tryz.underlying83 Tryz.underlying3 BX rfl rfl hC Ar.cast (by omega)) HX.out) AA ?_;go_step|go_big_skip|refine X0 ?_|refine Ox ?_|refine X4 13 ?_ ?_<;>intro hB<;>(try exact Ak)<;>go_step|refine X3 ?_|refine X9 ?_|refine AF ?_;go_step|fail)
   all_goals
    refine AI (xs:=[_,_]) rfl (.cons (AC.tmp rfl) (.cons (AC.tmp rfl) (.nil))) (by simp) rfl ?_
    exact ⟨_,rfl,hS.1⟩
  obtain rfl:k=16:=by omega
  have hgt:256<sm (cc C) 16:=by
   have:=HB.out
   have h2:=HA.out
   by_cases h3:sm (cc C) 16≤256
   ·exact absurd ⟨h2,h3⟩ this
   omega
  repeat' (first
   | refine X0 ?_|refine X3 ?_|(with_reducible refine Al _ (.binOp .leq _ _ _ _) ?_);(refine AY AA (V.leq rfl rfl) ?_;go_step)|refine AF ?_;go_step|fail)
  refine AI (xs:=[_,_]) rfl (.cons (AC.tmp rfl) (.cons (AC.tmp rfl) (.nil))) (by simp) rfl ?_
  exact ⟨_,Ga (decide_eq_false (by omega)),hS.1⟩
def GE(l:List Int)(s:Int):Option Value:=if s∈l then some (.bool true) else none
theorem KL(S:List Int)(k:Nat)(hk:k<S.length):(fun j=>if j=AG S k then some (Value.bool true) else GE (S.take k) j)=GE (S.take (k+1)):=by
 funext j
 have e:S.take (k+1)=S.take k++[AG S k]:=by rw [List.take_add_one,Bv S k hk];rfl
 unfold GE
 rw [e]
 by_cases h:j=AG S k
 ·simp [h]
 simp [h]
theorem NV(S:List Int)(k:Nat)(h:k<S.length):AG S k∈S:=List.mem_of_getElem? (Bv S k h)
theorem I7(S:List Int)(k:Nat)(hk:k<S.length):(S.take (k+1)).Nodup↔(S.take k).Nodup∧AG S k∉S.take k:=by
 have e:S.take (k+1)=S.take k++[AG S k]:=by rw [List.take_add_one,Bv S k hk];rfl
 rw [e,List.nodup_append]
 constructor
 ·intro h;exact ⟨h.1,fun hm=>h.2.2 _ hm _ (by simp) rfl⟩
 intro h;refine ⟨h.1,by simp,fun a ha b hb=>?_⟩
 simp only [List.mem_singleton] at hb
 subst hb
 intro e;subst e;exact h.2 ha
theorem Eh(w0:World)(C S:List Int)(ad:Option Addr)(n c:Nat)(hC:A2 C 16)(hv:Sl w0 1 (.slice ad n c) n (S.map (Value.int .i64)))(hn:n≤9223372036854775807):
 Calls Tryz.prog 101 #[tv C (.slice ad n c)] w0 fun e w=>e= .returned (.int .i64 (BH C S))∧AP w0 w:=by
 have hSl:S.length=n:=by have:=hv.1;simpa using this
 have HSl:=AD hSl
 clear hSl
 have hS:=St.start w0
 by_cases ht:E0 C=true
 case neg=>
  have hE:=AD (show BH C S=4 by unfold BH;rw [if_neg (fun h=>ht h.1)])
  have ht2:=AD (show E0 C=false by simpa using ht)
  clear ht
  go_enter Tryz.func101,Tryz.ntmps101
  repeat' (first
   | (refine Av 114 ?_);refine Aw AA Tryz.call114 (MN _ C _ hC ht2.out) ?_;rintro e w ⟨z,rfl,hE2⟩;replace hS:=hS.ext hE2;clear hE2;refine A9 ?_;go_step|go_skip|refine X0 ?_|refine X6 ?_|refine Og 18 ?_ ?_<;>intro hB<;>(try exact Na hB)<;>go_step|refine X8 ?_|refine LM 1 ?_;clear hS;intro g1 w hS|refine Mj ?_|refine AF ?_;go_step|fail)
  refine Cd rfl (AC.tmp rfl) rfl ?_
  exact ⟨(by rw [hE.out];first|done|rfl),hS.1⟩
 have HT:=AD ht
 clear ht
 by_cases hs:sm (cc C) 16=n
 case neg=>
  have hE:=AD (show BH C S=4 by unfold BH;rw [if_neg (fun h=>hs (h.2.trans HSl.out))])
  obtain ⟨t,ht⟩:∃t,sm (cc C) 16=t:=⟨_,rfl⟩
  rw [ht] at hs
  have HT2:=AD ht
  clear ht
  go_enter Tryz.func101,Tryz.ntmps101
  repeat' (first
   | (refine Av 114 ?_);refine Aw AA Tryz.call114 (Gj _ C _ hC HT.out) ?_;rintro e w ⟨rfl,hE2⟩;rw [HT2.out];replace hS:=hS.ext hE2;clear hE2;refine A9 ?_;go_step|refine X0 ?_|refine Jc ?_|refine Og 18 ?_ ?_<;>intro hB<;>(try exact Na hB)<;>go_step|refine X8 ?_|refine Py ?_|refine PW ?_|refine PV ?_|refine LM 1 ?_;clear hS;intro g1 w hS|refine Mj ?_|refine Pa ?_|refine AF ?_;go_step|fail)
  refine Cd rfl (AC.tmp rfl) rfl ?_
  exact ⟨(by rw [hE.out];first|done|rfl),hS.1⟩
 have h256:n≤256:=by
  have:=(CG C).1 HT.out
  omega
 have HS2:=AD hs
 have HE:=AD (show BH C S=if Ib S then if S.Nodup∧IV (cc C)=true then 0 else 4 else 1 by unfold BH;rw [if_pos ⟨HT.out,hs.trans HSl.out.symm⟩])
 clear hs
 go_enter Tryz.func101,Tryz.ntmps101
 repeat' (first
  | (refine Av 114 ?_);refine Aw AA Tryz.call114 (Gj _ C _ hC HT.out) ?_;rintro e w ⟨rfl,hE2⟩;rw [HS2.out];replace hS:=hS.ext hE2;clear hE2;refine A9 ?_;go_step|refine X0 ?_|refine Jc ?_|refine Og 18 ?_ ?_<;>intro hB<;>(try exact Na hB)<;>go_step|refine X8 ?_|refine Py ?_|refine PW ?_|refine PV ?_|refine LM 1 ?_;clear hS;intro g1 w hS|refine Mj ?_|refine Pa ?_|(refine AM 26 ?_);(refine Aq ?_;apply DA (o:=⟨some 26,_,_,_,_,_⟩) ik hS 158 rfl;clear hS;intro g26 w hS;refine AB ?_;go_step)|refine AF ?_;go_step|fail)
 go_loopg [6,30] n (fun gk bv kv w=>∃(k:Nat) (b:Bool),gk+k=n∧kv= .int .i64 k∧bv= .bool b∧Hid (b=true↔¬(S.take k).Nodup)∧Hid (∀j,j<k→0≤AG S j∧AG S j<256)∧St w0 w [mp ik g26 (GE (S.take k)),prt g1 [.ints C, .val (.slice ad n c)]])
 case atStart=>exact ⟨0,false,rfl,rfl,rfl,AD (by simp),AD (fun j hj=>absurd hj (by omega)),(by rw [show GE (S.take 0)=fun _=>none from (by funext s;simp [GE])];exact hS)⟩
 case round=>
  clear hS
  obtain ⟨k,b,hk,rfl,rfl,HB,HR,hS⟩:=hrel
  by_cases hlt:k<n
  ·have hk2:=AD (show k<S.length by rw [HSl.out];exact hlt)
   have HF:=AD (KL S k hk2.out)
   have HN:=AD (I7 S k hk2.out)
   obtain ⟨x,hx⟩:∃x,AG S k=x:=⟨_,rfl⟩
   have HX:=AD hx
   rw [hx] at HF HN
   clear hx
   by_cases hr:0≤x∧x<256
   ·have HR2:Hid (∀j,j<k+1→0≤AG S j∧AG S j<256):=AD fun j hj=>by
     by_cases hjk:j<k
     ·exact HR.out j hjk
     obtain rfl:j=k:=by omega
     rw [HX.out];exact hr
    by_cases hm:x∈S.take k
    ·have hf:GE (S.take k) x=some (.bool true):=by rw [GE,if_pos hm]
     have HB2:Hid (true=true↔¬(S.take (k+1)).Nodup):=AD (by rw [HN.out];simp [hm])
     clear HN hm
     cases b
     all_goals
      repeat' (first
       | (refine AM 32 ?_);refine DB hv Tryz.underlying46 BX rfl rfl Ar.cast (by omega) AA ?_;rw [HX.out];intro b32 o32 hc32;go_step|go_big_skip|refine X0 ?_|refine Ox ?_|refine X4 35 ?_ ?_<;>intro hB<;>(try exact Ak)<;>go_step|refine X3 ?_|refine Px ?_|refine X5 ?_|refine Mh ?_|(refine AM 44 ?_);(refine Aq ?_;apply C9 (enc:=ik) hS 158 _ _ rfl _ rfl _ rfl Tryz.underlying158 (BB Tryz.underlying3) (.bool false) (fun w=>Tryz.zeroValue4 w) _;(case hp=>exact AS);(case hf=>with_reducible assumption);refine AB ?_;go_step)|refine QR ?_;clear hS;intro w hS|refine AF ?_;go_step|fail)
      go_roundg (gk-1)
      case measure=>omega
      case rel=>exact ⟨k+1,true,by omega,by go_num,rfl,HB2,HR2,by rw [←HF.out];exact hS.sub Ae⟩
    have hf:GE (S.take k) x=none:=by rw [GE,if_neg hm]
    have HB2:Hid (b=true↔¬(S.take (k+1)).Nodup):=AD (by rw [HN.out,HB.out];simp [hm])
    clear HN hm
    cases b
    all_goals
     repeat' (first
      | (refine AM 32 ?_);refine DB hv Tryz.underlying46 BX rfl rfl Ar.cast (by omega) AA ?_;rw [HX.out];intro b32 o32 hc32;go_step|go_big_skip|refine X0 ?_|refine Ox ?_|refine X4 35 ?_ ?_<;>intro hB<;>(try exact Ak)<;>go_step|refine X3 ?_|refine Px ?_|refine X5 ?_|refine Mh ?_|(refine AM 44 ?_);(refine Aq ?_;apply D9 (enc:=ik) hS 158 _ _ rfl _ rfl _ rfl Tryz.underlying158 (BB Tryz.underlying3) (.bool false) (fun w=>Tryz.zeroValue4 w) _;(case hp=>exact AS);(case hf=>with_reducible assumption);refine AB ?_;go_step)|refine QR ?_;clear hS;intro w hS|refine AF ?_;go_step|fail)
     go_roundg (gk-1)
     case measure=>omega
     case rel=>exact ⟨k+1,_,by omega,by go_num,rfl,HB2,HR2,by rw [←HF.out];exact hS.sub Ae⟩
   have hE4:Hid (BH C S=1):=AD (by
    rw [HE.out,if_neg]
    intro h
    have:=List.all_eq_true.1 h x (by rw [←HX.out];exact NV S k hk2.out)
    simp at this;omega)
   clear HF HN
   have hr2:x<0∨256≤x:=by omega
   clear hr
   repeat' (first
    | (refine AM 32 ?_);refine DB hv Tryz.underlying46 BX rfl rfl Ar.cast (by omega) AA ?_;rw [HX.out];intro b32 o32 hc32;go_step|go_big_skip|refine X0 ?_|refine Ox ?_|refine X4 35 ?_ ?_<;>intro hB<;>(try exact Ak)<;>go_step|refine X3 ?_|refine Px ?_|refine Mh ?_|refine AF ?_;go_step|fail)
   all_goals
    refine Cd rfl (AC.tmp rfl) rfl ?_
    exact ⟨(by rw [hE4.out];first|done|rfl),hS.1⟩
  obtain rfl:k=n:=by omega
  have hall:Ib S=true:=by
   rw [Ib,List.all_eq_true]
   intro s hs
   obtain ⟨j,hj,rfl⟩:=List.getElem_of_mem hs
   have:=HR.out j (by rw [←HSl.out];exact hj)
   simp [AG,List.getD,hj] at this
   simpa using this
  have htk:S.take k=S:=by rw [←HSl.out];exact List.take_length
  have HB3:Hid (b=true↔¬S.Nodup):=AD (by have:=HB.out;rwa [htk] at this)
  have HE3:Hid (BH C S=if S.Nodup∧IV (cc C)=true then 0 else 4):=AD (by rw [HE.out,if_pos hall])
  have HCp:=AD ((CG C).1 HT.out).1
  clear hall htk HB HE HR
  repeat' (first
   | refine X0 ?_|refine X3 ?_|refine PY ?_|refine Pb ?_|refine AF ?_;go_step|fail)
  go_loopg [9,51] 16 (fun gk nv kv w=>∃(i:Nat),gk+i=16∧kv= .int .i64 i∧nv= .int .i64 (nx (cc C) i:Nat)∧nx (cc C) i<2^i∧Hid (∀j,j<i→nx (cc C) (j+1)<2^(j+1))∧Hid (0<i→b=false)∧St w0 w [])
  case atStart=>exact ⟨0,rfl,rfl,rfl,by simp [nx],AD (fun j hj=>absurd hj (by omega)),AD (fun h=>absurd h (by omega)),hS.sub Ae⟩
  case round=>
   clear hS
   obtain ⟨i,hi,rfl,rfl,hlt2,HA,HZ,hS⟩:=hrel
   by_cases hlt:i<16
   ·have hx:=HCp.out i hlt
    have hci:=Gv C i hx.1
    have HNx:=AD (show nx (cc C) (i+1)=2*nx (cc C) i+cc C i from rfl)
    obtain ⟨y,hy⟩:∃y,cc C i=y:=⟨_,rfl⟩
    rw [hy] at hci HNx
    have HX:=AD hci
    have hy2:y≤256:=by omega
    obtain ⟨p,hp⟩:∃p,p=2^i:=⟨_,rfl⟩
    have hp2:p≤32768:=by rw [hp];exact Nat.pow_le_pow_right (n:=2) (j:=15) (by omega) (by omega)
    obtain ⟨z,hz⟩:∃z,nx (cc C) i=z:=⟨_,rfl⟩
    rw [←hp] at hlt2
    have HP:Hid ((2:Int)^(i+1)=((2*p:Nat):Int)):=AD (by rw [hp,Int.pow_succ];push_cast;omega)
    have HP2:Hid (2^(i+1)=2*p):=AD (by rw [hp,Nat.pow_succ];omega)
    rw [hz] at hlt2 HNx⊢
    clear hci hy hp hz hx
    by_cases hbad:b=true∨2*p≤2*z+y
    ·have hE4:Hid (BH C S=4):=AD (by
      rw [HE3.out,if_neg]
      rintro ⟨h1,h2⟩
      rcases hbad with h|h
      ·exact (HB3.out.1 h) h1
      have:=(Da _).1 h2 i hlt
      rw [HNx.out,HP2.out] at this;omega)
     have hbad2:b=false→2*p≤2*z+y:=fun h=>by
      rcases hbad with h'|h'
      ·rw [h] at h';cases h'
      exact h'
     clear hbad
     cases b
     ·replace hbad2:=hbad2 rfl
      repeat' (first
       | refine Ol 54 ?_|refine P5 56 ?_|refine P4 58 ?_|(refine AM 64 ?_);(refine AR (.int _ (((2*p:Nat):Int))) (V.as (V.shl1 rfl rfl BW (by omega)) (by exact HP.out)) (by kernel_rfl) ?_;go_step)|refine X0 ?_|refine Jc ?_|refine X3 ?_|refine X5 ?_|refine Oi ?_|refine X9 ?_|refine AF ?_;go_step|fail)
      refine Cd rfl (AC.tmp rfl) rfl ?_
      exact ⟨(by rw [hE4.out];first|done|rfl),hS.1⟩
     clear hbad2
     repeat' (first
      | refine Ol 54 ?_|refine P5 56 ?_|refine P4 58 ?_|go_big_skip|refine X0 ?_|refine X6 ?_|refine X3 ?_|refine AF ?_;go_step|fail)
     refine Cd rfl (AC.tmp rfl) rfl ?_
     exact ⟨(by rw [hE4.out];first|done|rfl),hS.1⟩
    obtain rfl:b=false:=by cases b<;>simp_all
    have hgood:2*z+y<2*p:=by
     by_cases h:2*p≤2*z+y
     ·exact absurd (.inr h) hbad
     omega
    have HA2:Hid (∀j,j<i+1→nx (cc C) (j+1)<2^(j+1)):=AD fun j hj=>by
     by_cases hji:j<i
     ·exact HA.out j hji
     obtain rfl:j=i:=by omega
     rw [HNx.out,HP2.out];exact hgood
    clear hbad
    repeat' (first
     | refine Ol 54 ?_|refine P5 56 ?_|refine P4 58 ?_|(refine AM 64 ?_);(refine AR (.int _ (((2*p:Nat):Int))) (V.as (V.shl1 rfl rfl BW (by omega)) (by exact HP.out)) (by kernel_rfl) ?_;go_step)|refine X0 ?_|refine Jc ?_|refine X3 ?_|refine X5 ?_|refine Oi ?_|refine X9 ?_|refine AF ?_;go_step|fail)
    go_roundg (gk-1)
    case measure=>omega
    case rel=>exact ⟨i+1,by omega,by go_num,by rw [HNx.out],by rw [HNx.out,HP2.out];exact hgood,HA2,AD (fun _=>rfl),hS⟩
   obtain rfl:i=16:=by omega
   have hE0:Hid (BH C S=0):=AD (by
    rw [HE3.out,if_pos]
    refine ⟨?_,(Da _).2 HA.out⟩
    have h1:=HZ.out (by omega)
    have h2:=HB3.out
    rw [h1] at h2
    simpa using h2)
   repeat' (first
    | refine X7 ?_|refine X3 ?_|refine AF ?_;go_step|fail)
   refine Cd rfl (AC.tmp rfl) rfl ?_
   exact ⟨(by rw [hE0.out];first|done|rfl),hS.1⟩
theorem N2(c:Nat→Nat)(k:Nat):∀d,sm c k≤sm c (k+d)
 | 0=>Nat.le_refl _
 | d+1=>by have:=N2 c k d;rw [←Nat.add_assoc,sm];omega
theorem PG(c:Nat→Nat)(k:Nat)(hk:k≤16)(h:nx c 16<65536):nx c k<65536:=by
 have:=L7 c k (16-k)
 rw [show k+(16-k)=16 by omega] at this
 have h2:nx c k*1≤nx c k*2^(16-k):=Nat.mul_le_mul_left _ (Nat.two_pow_pos _)
 omega
theorem Ik(w0:World)(C S:List Int)(ad:Option Addr)(n c:Nat)(hC:A2 C 16)(hv:Sl w0 1 (.slice ad n c) n (S.map (Value.int .i64)))(hn:n≤9223372036854775807)(hok:BH C S=0):
 Calls Tryz.prog 102 #[tv C (.slice ad n c)] w0 fun e w=>∃a' c',e= .returned (.slice a' n c')∧St w0 w [own 120 3 a' n c' ((JR (Bt C S)).map (Value.int .i64))]:=by
 have hSl:S.length=n:=by have:=hv.1;simpa using this
 obtain ⟨hb,h16,h256,_,_,hroom⟩:=C7 hok
 rw [hSl] at h256 h16
 have hnx:=AD ((Db _).1 hroom)
 have HSl:=AD hSl
 have HB:=AD hb
 have H16:=AD h16
 clear hSl hb h16 hroom hok
 have hS:=St.start w0
 go_enter Tryz.func102,Tryz.ntmps102
 repeat' (first
  | refine X0 ?_|refine PY ?_|refine LM 1 ?_;clear hS;intro g1 w hS|refine Pb ?_|refine AF ?_;go_step|fail)
 replace hS:=hS.nilk 120 3 .i64
 go_loopg [3,4,9] 16 (fun gk ov nv kv w=>∃(k m q:Nat) (a':Option Addr) (c':Nat),gk+k=16∧kv= .int .i64 k∧q=nx (cc C) k∧nv= .int .i64 q∧m=sm (cc C) k∧m≤n∧ov= .slice a' m c'∧St w0 w [own 120 3 a' m c' ((JR (S.zip (DW (cc C) k))).map (Value.int .i64)),prt g1 [.ints C, .val (.slice ad n c)]])
 case atStart=>exact ⟨0,0,0,none,0,rfl,rfl,rfl,rfl,rfl,by omega,rfl,by rw [show JR (S.zip (DW (cc C) 0))=[] by simp [DW,JR]];exact hS.sub Ae⟩
 case round=>
  clear hS
  obtain ⟨k,m,q,a',c',hk,rfl,hq,rfl,hm,hmn,rfl,hS⟩:=hrel
  by_cases hlt:k<16
  ·have hx:=HB.out k hlt
   have hci:=Gv C k hx.1
   have HNx:=AD (show nx (cc C) (k+1)=2*nx (cc C) k+cc C k from rfl)
   have HSm:=AD (show sm (cc C) (k+1)=sm (cc C) k+cc C k from rfl)
   have hsl:sm (cc C) (k+1)≤n:=by have:=N2 (cc C) (k+1) (15-k);rw [show k+1+(15-k)=16 by omega,H16.out] at this;exact this
   have hnl:=PG (cc C) (k+1) (by omega) hnx.out
   have HCd:=AD (show DW (cc C) (k+1)=DW (cc C) k++(List.range (cc C k)).map (fun j=>(k+1,2*nx (cc C) k+j)) from rfl)
   obtain ⟨y,hy⟩:∃y,cc C k=y:=⟨_,rfl⟩
   rw [hy] at hci HNx HSm HCd
   rw [HSm.out,←hm] at hsl
   rw [HNx.out,←hq] at hnl
   have HX:=AD hci
   have HQ:=AD hq
   have HM:=AD hm
   have hy2:y≤256:=by omega
   clear hci hy hx hq hm
   repeat' (first
    | refine Ol 12 ?_|(refine AM 14 ?_);(refine AR (.int _ (((2*q:Nat):Int))) (V.as (V.shlI rfl rfl BW (by omega) (by omega)) (by omega)) (by kernel_rfl) ?_;go_step)|refine X0 ?_|refine X3 ?_|refine AF ?_;go_step|fail)
   obtain ⟨gk1,hgk1⟩:∃x,x=gk:=⟨_,rfl⟩
   subst hgk1
   go_loopg [3,4,16] y (fun gk ov nv kv w=>∃(j M:Nat) (a':Option Addr) (c':Nat) (L:List (Nat×Nat)),gk+j=y∧M=m+j∧kv= .int .i64 j∧nv= .int .i64 (2*q+j:Nat)∧Hid (L=DW (cc C) k++(List.range j).map (fun i=>(k+1,2*q+i)))∧ov= .slice a' M c'∧St w0 w [own 120 3 a' M c' ((JR (S.zip L)).map (Value.int .i64)),prt g1 [.ints C, .val (.slice ad n c)]])
   case atStart=>exact ⟨0,m,a',c',_,rfl,rfl,rfl,rfl,AD rfl,rfl,by rw [List.range_zero,List.map_nil,List.append_nil];exact hS.sub Ae⟩
   case round=>
    clear hS
    obtain ⟨j,M,a2,c2,L,hj,hM,rfl,rfl,HL,rfl,hS⟩:=hrel
    by_cases hlt2:j<y
    ·have HLl:Hid (L.length=M):=AD (by rw [HL.out,List.length_append,Cz];simp;have:=HM.out;omega)
     have HSn:Hid (JR (S.zip (L++[(k+1,2*q+j)]))=JR (S.zip L)++[AG S M,((k+1:Nat):Int),((2*q+j:Nat):Int)]):=AD (by
      rw [Ma S L _ (by rw [HLl.out,HSl.out];omega),MR,HLl.out])
     have HL2:Hid (L++[(k+1,2*q+j)]=DW (cc C) k++(List.range (j+1)).map (fun i=>(k+1,2*q+i))):=AD (by
      rw [HL.out,List.range_succ,List.map_append,List.append_assoc];rfl)
     repeat' (first
      | refine Oy 26 ?_|(refine AM 32 ?_);(refine AR (.int _ (((2*q+(j+1):Nat):Int))) (V.as (V.addI rfl rfl (by omega)) (by omega)) (by kernel_rfl) ?_;go_step)|refine X0 ?_|refine X3 ?_|refine Py ?_|(with_reducible refine Al _ (.call ⟨.builtin .len,_,_⟩) ?_);(refine AY AA (V.len Tryz.underlying116 rfl) ?_;go_step)|refine Oh 23 ?_;intro b23 o23 hc23;go_step|refine X5 ?_|(refine AM 28 ?_);(refine AY AA (V.build (vs:=[(0,_),(1,_),(2,_)]) rfl (H2 _ _ _)) ?_;go_step)|refine Pa ?_|refine Mh ?_|(refine AM 29 ?_);(refine Aq ?_;apply Aj (o:=⟨some 29,_,_,_,_,_⟩) hS 116 1 _ rfl 120 3 24 Nv _ _;(case hvs=>(repeat (first|exact AX.nil|(apply AX.agg;(rfl);(rfl))|(apply AX.one;exact Dz;(rfl);(rfl)))));(case hn=>rfl);(case hn0=>decide);(case hns=>decide);clear hS;intro g29 w hS;simp only [List.cons_append,List.nil_append] at hS;refine AB ?_;go_step)|(refine AM 30 ?_);(refine Aq ?_;apply Am (o:=⟨some 30,_,_,_,_,_⟩) hS _ _ 116 rfl 120 3 24 Nv _ _ _ _ rfl;(case hp=>exact AS);(case hx=>exact rfl);(case hm=>(first|exact hS.slBlk AS (by rfl) (by decide)|exact hS.sl AS|with_reducible assumption|exact Sl.ext (by with_reducible assumption) hS.1|exact Sl.nil _ _|exact Sl.ext (by assumption) hS.1|assumption));(case h1=>(first|exact B6 rfl|exact Fd _ _|(intro u hu;cases hu)));(case h63=>unfold maxLen;omega);(case hb=>omega);clear hS;intro ad30 c30 w hS;(first|simp only [DC] at hS|simp only [DD] at hS|simp only [DE] at hS|simp only [DF] at hS|simp only [DG] at hS|skip);refine AB ?_;go_step)|refine AF ?_;go_step|fail)
     go_roundg (gk-1)
     case measure=>omega
     case rel=>
      refine ⟨j+1,M+1,_,_,L++[(k+1,2*q+j)],by omega,by omega,by go_num,rfl,HL2,rfl,?_⟩
      rw [HSn.out]
      exact hS.sub Ae
    obtain rfl:j=y:=by omega
    have HL3:Hid (L=DW (cc C) (k+1)):=AD (by rw [HL.out,HCd.out,HQ.out])
    repeat' (first
     | refine X1 ?_|refine X3 ?_|refine X5 ?_|refine AF ?_;go_step|fail)
    go_roundg (gk1-1)
    case measure=>omega
    case rel=>
     refine ⟨k+1,M,2*q+j,_,_,by omega,by go_num,by rw [HNx.out,HQ.out],rfl,by rw [HSm.out,hM,HM.out],by omega,rfl,?_⟩
     rw [←HL3.out]
     exact hS.sub Ae
  obtain rfl:k=16:=by omega
  have hmn2:m=n:=by rw [hm,H16.out]
  subst hmn2
  repeat' (first
   | refine X0 ?_|refine X3 ?_|refine AF ?_;go_step|fail)
  go_ret
  refine ⟨_,_,rfl,?_⟩
  unfold Bt
  exact hS.sub Ae
def Dv(w0:World)(C S:List Int)(e:Ending)(w:World):Prop:=
 ∃a' n' c',n'=(if BH C S=0 then S.length else 0)∧e= .returned (.tuple #[.slice a' n' c', .int .i64 (BH C S)])∧St w0 w [own 120 3 a' n' c' ((if BH C S=0 then JR (Bt C S) else []).map (Value.int .i64))]
theorem Ku(w0:World)(C S:List Int)(ad:Option Addr)(n c:Nat)(hC:A2 C 16)(hv:Sl w0 1 (.slice ad n c) n (S.map (Value.int .i64)))(hn:n≤9223372036854775807):
 Calls Tryz.prog 77 #[tv C (.slice ad n c)] w0 (Dv w0 C S):=by
 have hSl:S.length=n:=by have:=hv.1;simpa using this
 have HSl:=AD hSl
 clear hSl
 have hS:=St.start w0
 obtain ⟨E,hE⟩:∃E,BH C S=E:=⟨_,rfl⟩
 have HE:=AD hE
 clear hE
 by_cases h0:E=0
 ·subst h0
  have hck:=Eh w0 C S ad n c hC hv hn
  rw [HE.out] at hck
  have HCk:=AD hck
  clear hck
  go_enter Tryz.func77,Tryz.ntmps77
  repeat' (first
   | (refine Av 101 ?_);refine Aw AA Tryz.call101 (Eh _ C S ad n c hC (hv.ext hS.1) hn) ?_;rintro e w ⟨rfl,hE2⟩;rw [HE.out];replace hS:=hS.ext hE2;clear hE2;refine A9 ?_;go_step|(refine Av 102 ?_);refine Aw AA Tryz.call102 (Ik _ C S ad n c hC (hv.ext hS.1) hn HE.out) ?_;rintro e w ⟨a2,c2,rfl,hS2⟩;replace hS:=hS.call1 hS2;clear hS2;refine A9 ?_;go_step|refine X0 ?_|refine J1 ?_|refine LM 1 ?_;clear hS;intro g1 w hS|refine Mj ?_|refine AF ?_;go_step|fail)
  refine AI (xs:=[_,_]) rfl (.cons (AC.tmp rfl) (.cons (AC.tmp rfl) (.nil))) (by simp) rfl ?_
  refine ⟨a2,n,c2,by rw [if_pos HE.out,HSl.out],?_,?_⟩
  ·rw [HE.out];rfl
  rw [if_pos HE.out];exact hS.sub Ae
 go_enter Tryz.func77,Tryz.ntmps77
 repeat' (first
  | (refine Av 101 ?_);refine Aw AA Tryz.call101 (Eh _ C S ad n c hC (hv.ext hS.1) hn) ?_;rintro e w ⟨rfl,hE2⟩;rw [HE.out];replace hS:=hS.ext hE2;clear hE2;refine A9 ?_;go_step|refine X0 ?_|refine J1 ?_|refine LM 1 ?_;clear hS;intro g1 w hS|refine Mj ?_|refine AF ?_;go_step|fail)
 refine AI (xs:=[_,_]) rfl (.cons (AC.tmp rfl) (.cons (AC.tmp rfl) (.nil))) (by simp) rfl ?_
 refine ⟨none,0,0,by rw [if_neg (by rw [HE.out];exact h0)],?_,?_⟩
 ·rw [HE.out];rfl
 rw [if_neg (by rw [HE.out];exact h0)];exact (St.of_ext hS.1).nil _ _
theorem AC.prt{P:Program}{W w:World}{rs rs':List Af}{tmps:Array Value}{p g n:Nat}{ty:TypeId}{ps:List AO}(hS:St W w rs)(hp:tmps.getD p undef= .pointer (some ⟨g,0,none⟩))(h1:Cx P ty n)(pl:AK (Go.Proofs.YtngojkompmcceaaGreatDoor.prt g ps) rs rs')(hn:Es ps n ps):AC P tmps w (.cell p ty) (.agg (AE ps).toArray):=
 AC.blk hS hp h1 pl hn.take.2
end Go.Proofs.YtngojkompmcceaaGreatDoor
