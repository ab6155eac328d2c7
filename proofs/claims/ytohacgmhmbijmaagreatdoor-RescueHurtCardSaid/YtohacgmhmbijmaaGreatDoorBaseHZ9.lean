/- What the laws RescueHurt need, part 9. -/
import Derived.Test.YtohacgmhmbijmaaGreatDoorBaseHZ2
import Derived.Test.YtohacgmhmbijmaaGreatDoorBaseHZ3
import Derived.Test.YtohacgmhmbijmaaGreatDoorBaseHZ8
namespace Go.Proofs.YtohacgmhmbijmaaGreatDoor
attribute [local irreducible] Region.wanted
open Go.RowKit
set_option linter.unusedVariables false
set_option maxRecDepth 100000
set_option maxHeartbeats 8000000
theorem VS{W:World}{σ:Type}(Z:dR W σ)(w0:World)(rs rs':List Ar)(s0:σ)(before:Int)(hb: -2047≤before∧before≤2047)(hS:St W w0 rs)(hp:AT (Z.res s0) rs rs'):
 Calls Tryz.prog 88 #[.int .i64 before, .iface Z.tid Z.ptr] w0 (Iq Z before s0 rs'):=by
 by_cases hgood:(Z.next s0 true).2.1=0∧Bl before (Z.next s0 true).1=true
 case neg=>exact VT Z w0 rs rs' s0 before hb hS hp hgood
 replace hS:=hS.pull hp
 have hZ0:Al BY 64:=List.length_replicate
 clear hp
 obtain ⟨⟨⟨t0,t1,t2⟩,er,s1⟩,hn⟩:∃x,Z.next s0 true=x:=⟨_,rfl⟩
 rw [hn] at hgood
 obtain ⟨he,hfst⟩:=hgood
 dsimp only at he hfst
 subst he
 have hf2:=hfst
 unfold Bl at hf2
 simp only [Bool.and_eq_true,decide_eq_true_eq] at hf2
 obtain ⟨⟨⟨q1,q2⟩,q3⟩,q4⟩:=hf2
 subst q3
 have hB:PH t0 t2=true:=by unfold PH;rw [decide_eq_true q1,decide_eq_true q2];rfl
 obtain ⟨n,hnum⟩:∃n,C0 (t0,t0,t2)=n:=⟨_,rfl⟩
 have hnb:=J3 t0 t0 t2 hB
 rw [hnum] at hnb
 obtain ⟨hn1,hn2,_⟩:=hnb
 have HNum:Hid (Dw t0.toNat t2.toNat=n):=AD hnum
 rw [hnum] at q4
 have hco: -2047≤before+n∧before+n≤2047:=q4
 have HQ:Hid (XL (before+n)=true):=AD ((GY _).2 hco)
 have HFirst:Hid (Bl before (t0,t0,t2)=true):=AD hfst
 have HN:=AD hn
 clear q1 q2 q4 hfst
 obtain ⟨R,hR⟩:∃R,BH Z.next 64 1 (B6 (before+n)) [(t0,t0,t2)] s1=R:=⟨_,rfl⟩
 have HF:Hid (DX Z.next before s0=if R.1≠0 then (R.1,BY,[],R.2.2.2) else if BO before R.2.1=R.2.2.1 then (0,Cc R.2.1,R.2.2.1,R.2.2.2) else (4,BY,[],R.2.2.2)):=AD (by
  unfold DX;rw [hn];dsimp only
  rw [if_neg (by simp),if_neg (by rw [HFirst.out];simp),hnum,hR];rfl)
 have HR:=AD hR
 have hfl:Al (B6 (before+n)) 64:=Al.set Al.rep
 have HFb:Hid (∀i,i<64→ -2047≤AJ (B6 (before+n)) i∧AJ (B6 (before+n)) i≤2047):=AD fun i hi=>by
  unfold B6
  rw [CN _ _ _ _ (by simp)]
  split
  ·exact hco
  rw [EH];omega
 clear hn hnum hR hco
 go_enter Tryz.func88,Tryz.ntmps88
 repeat' (first
  | (refine AQ 19 ?_);refine Ad ?_;refine B5 rfl (.iface Z.tid Z.ptr) rfl [.bool true] rfl Z.f #[Z.ptr, .bool true] (Z.inv true) (Z.call _ _ _ s0 true _ _ _ _ _ hS AL HN.out) ?_;clear hS;rintro e w ⟨rfl,hS⟩;refine Ac ?_;go_step|(refine AQ 37 ?_);refine AM (f:=121) Tryz.call121 AA ?_;refine ⟨_,(Cp t0 t2 _ hB),?_⟩;rintro e w' ⟨rfl,rfl⟩;rw [HNum.out];refine Ac ?_;go_step|(refine As 122 ?_);refine At AA Tryz.call122 (Db (before+n) _) ?_;rintro e w' ⟨rfl,rfl⟩;rw [HQ.out];refine Ac ?_;go_step|refine db 31 ?_;clear hS;intro g31 w hS|refine X0 ?_|refine H7 ?_|refine Fh 41 ?_ ?_<;>intro hB<;>(try exact AR)<;>go_step|refine Fh 47 ?_ ?_<;>intro hB<;>(try exact AR)<;>go_step|refine X6 ?_|refine X4 ?_|refine RU ?_|refine bM ?_|refine Uj ?_|refine X7 ?_|refine RW ?_|(refine AQ 64 ?_);(refine An AA (V.build (vs:=[(0,_)]) rfl (bi _)) ?_;go_step)|refine KK 4 ?_;clear hS;intro g4 w hS|refine It 8 ?_;clear hS;intro g8 w hS|refine Il ?_;clear hS;intro w hS|refine Fd ?_;clear hS;intro w hS|refine RV ?_|refine X9 ?_|refine KK 12 ?_;clear hS;intro g12 w hS|refine AG ?_;go_step|fail)
 all_goals (try exact AR)
 replace hS:=hS.sub (xs:=arr g12 64 ((List.replicate 64 0).set 0 (before+n))::own 155 3 (some ⟨g31,0,none⟩) 1 1 [.int .i64 t0, .int .i64 t0, .int .i64 t2]::arr g4 64 (List.replicate 64 0)::Z.res s1::rs') AV
 go_loopg [10,13] 64 (fun gk ov av w=>∃(at_ m:Nat) (bl:List Int) (all:List CH) (a':Option Addr) (c':Nat) (s:σ),65≤gk+at_∧1≤at_∧at_≤64∧m≤at_∧av= .int .i64 at_∧ov= .slice a' m c'∧Hid (all.length=m)∧Al bl 64∧Hid (∀i,i<64→ -2047≤AJ bl i∧AJ bl i≤2047)∧Hid (BH Z.next gk at_ bl all s=R)∧
  St W w (arr g12 64 bl::own 155 3 a' m c' ((Ej all).map (Value.int .i64))::arr g4 64 (List.replicate 64 0)::Z.res s::rs'))
 case atStart=>exact ⟨1,1,B6 (before+n),[(t0,t0,t2)],_,_,s1,by omega,by omega,by omega,by omega,rfl,rfl,AD rfl,hfl,HFb,HR,hS⟩
 case round=>
  clear hS HFb hfl
  obtain ⟨at_,m,bl,all,a',c',s,hga,h1a,ha64,hma,rfl,rfl,HAl,hbl,HBl,HLo,hS⟩:=hrel
  by_cases hlt:at_<64
  ·obtain ⟨gk',rfl⟩:∃x,gk=x+1:=⟨gk-1,by omega⟩
   obtain ⟨⟨⟨u0,u1,u2⟩,er,s2⟩,hn⟩:∃x,Z.next s false=x:=⟨_,rfl⟩
   have hlo:=HLo.out
   rw [BH,if_neg (by omega),hn] at hlo
   dsimp only at hlo
   have HN2:=AD hn
   clear hn HLo
   by_cases he:er=0
   case neg=>
    rw [if_pos he] at hlo
    have HF2:Hid (DX Z.next before s0=(er,BY,[],s2)):=AD (by rw [HF.out,←hlo];exact if_pos he)
    clear hlo
    repeat' (first
     | (refine AQ 69 ?_);refine Ad ?_;refine B5 rfl (.iface Z.tid Z.ptr) rfl [.bool false] rfl Z.f #[Z.ptr, .bool false] (Z.inv false) (Z.call _ _ _ s false _ _ _ _ _ hS AL HN2.out) ?_;clear hS;rintro e w ⟨rfl,hS⟩;refine Ac ?_;go_step|refine X0 ?_|refine X5 66 ?_|refine X3 70 ?_|refine X3 71 ?_|refine It 14 ?_;clear hS;intro g14 w hS|refine Il ?_;clear hS;intro w hS|refine AG ?_;go_step|fail)
    all_goals (try exact AR)
    repeat' (first
     | (refine AQ 76 ?_);refine Ad ?_;refine BJ (f:=120) rfl rfl Tryz.call120 (CW _ _) ?_;rintro e w ⟨rfl,hE⟩;replace hS:=hS.ext hE;clear hE;refine Ac ?_;go_step|refine X0 ?_|refine Fe 73 ?_|refine X3 77 ?_|refine X3 78 ?_|refine X3 79 ?_|refine Fd ?_;clear hS;intro w hS|refine AG ?_;go_step|fail)
    refine AK (xs:=[_,_,_]) rfl (.cons (AC.arr hS rfl (AO (n:=64) rfl) AL) (.cons (AC.tmp rfl) (.cons (AC.tmp rfl) (.nil)))) (by simp) rfl ?_
    exact Cv er HF2.out hS AV
   subst he
   rw [if_neg (by simp)] at hlo
   obtain ⟨bd,hbd⟩:∃b,Ll (u0,u1,u2)=b:=⟨_,rfl⟩
   have hiff:=RZ u0 u1 u2
   rw [hbd] at hiff hlo
   have HFl:=AD (Kd all (u0,u1,u2))
   dsimp only at HFl
   cases bd
   case true=>
    rw [if_pos rfl] at hlo
    have HF2:Hid (DX Z.next before s0=(4,BY,[],s2)):=AD (by rw [HF.out,←hlo];exact if_pos (show (4:Int)≠0 by decide))
    have hor:=hiff.1 rfl
    clear hlo hiff hbd
    by_cases hB2:PH u1 u2=true
    case neg=>
     have hB3:PH u1 u2=false:=by simpa using hB2
     clear hor hB2
     repeat' (first
      | (refine AQ 69 ?_);refine Ad ?_;refine B5 rfl (.iface Z.tid Z.ptr) rfl [.bool false] rfl Z.f #[Z.ptr, .bool false] (Z.inv false) (Z.call _ _ _ s false _ _ _ _ _ hS AL HN2.out) ?_;clear hS;rintro e w ⟨rfl,hS⟩;refine Ac ?_;go_step|refine X0 ?_|refine X5 66 ?_|refine X3 70 ?_|refine X3 71 ?_|refine It 14 ?_;clear hS;intro g14 w hS|refine Il ?_;clear hS;intro w hS|refine AG ?_;go_step|fail)
     all_goals (try exact AR)
     repeat' (first
      | (refine AQ 89 ?_);refine AM (f:=121) Tryz.call121 AA ?_;refine ⟨_,(RY u1 u2 _ hB3),?_⟩;rintro e w' ⟨rfl,rfl⟩;refine Ac ?_;go_step|refine X0 ?_|refine Fe 73 ?_|refine Im 85 ?_|refine Zq 87 ?_|refine X3 90 ?_|refine X3 91 ?_|refine RV ?_|refine RT 82 ?_;clear hS;intro g82 w hS|refine Ur 83 ?_;clear hS;intro ad83 c83 w hS|refine X9 ?_|refine AG ?_;go_step|fail)
     all_goals (try exact AR)
     repeat' (first
      | (refine AQ 133 ?_);refine Ad ?_;refine BJ (f:=120) rfl rfl Tryz.call120 (CW _ _) ?_;rintro e w ⟨rfl,hE⟩;replace hS:=hS.ext hE;clear hE;refine Ac ?_;go_step|go_big_skip|refine X0 ?_|refine Fi ?_|refine Fh 93 ?_ ?_<;>intro hB<;>(try exact AR)<;>go_step|refine X3 134 ?_|refine X3 135 ?_|refine X3 136 ?_|refine Fd ?_;clear hS;intro w hS|refine AG ?_;go_step|fail)
     all_goals (try exact AR)
     all_goals
      refine AK (xs:=[_,_,_]) rfl (.cons (AC.arr hS rfl (AO (n:=64) rfl) AL) (.cons (AC.tmp rfl) (.cons (AC.tmp rfl) (.nil)))) (by simp) rfl ?_
      exact Cv 4 HF2.out hS AV
    have hor2:11<u1∨u0<0∨255<u0∨u1≠u0%16∨(u1=0∧u0≠0∧u0≠240):=by
     rcases hor with h|h
     ·rw [hB2] at h;cases h
     exact h
    clear hor
    obtain ⟨n2,hn2⟩:∃x,Dw u1.toNat u2.toNat=x:=⟨_,rfl⟩
    have HNb:=AD hn2
    clear hn2
    by_cases hr:0≤u0∧u0≤255
    case pos=>
     have HAnd:=AD (Uv u0 hr)
     have hor3:11<u1∨u1≠u0%16∨(u1=0∧u0≠0∧u0≠240):=by omega
     clear hor2
     repeat' (first
      | (refine AQ 69 ?_);refine Ad ?_;refine B5 rfl (.iface Z.tid Z.ptr) rfl [.bool false] rfl Z.f #[Z.ptr, .bool false] (Z.inv false) (Z.call _ _ _ s false _ _ _ _ _ hS AL HN2.out) ?_;clear hS;rintro e w ⟨rfl,hS⟩;refine Ac ?_;go_step|refine X0 ?_|refine X5 66 ?_|refine X3 70 ?_|refine X3 71 ?_|refine It 14 ?_;clear hS;intro g14 w hS|refine Il ?_;clear hS;intro w hS|refine AG ?_;go_step|fail)
     all_goals (try exact AR)
     repeat' (first
      | (refine AQ 89 ?_);refine AM (f:=121) Tryz.call121 AA ?_;refine ⟨_,(Cp u1 u2 _ hB2),?_⟩;rintro e w' ⟨rfl,rfl⟩;rw [HNb.out];refine Ac ?_;go_step|refine X0 ?_|refine Fe 73 ?_|refine Im 85 ?_|refine Zq 87 ?_|refine X3 90 ?_|refine X3 91 ?_|refine RV ?_|refine RT 82 ?_;clear hS;intro g82 w hS|refine Ur 83 ?_;clear hS;intro ad83 c83 w hS|refine X9 ?_|refine AG ?_;go_step|fail)
     all_goals (try exact AR)
     repeat' (first
      | refine dD 99 ?_|(refine AQ 133 ?_);refine Ad ?_;refine BJ (f:=120) rfl rfl Tryz.call120 (CW _ _) ?_;rintro e w ⟨rfl,hE⟩;replace hS:=hS.ext hE;clear hE;refine Ac ?_;go_step|go_big_skip|refine X0 ?_|refine Iu ?_|refine Fh 93 ?_ ?_<;>intro hB<;>(try exact AR)<;>go_step|refine Fh 100 ?_ ?_<;>intro hB<;>(try exact AR)<;>go_step|refine Jt 105 ?_ ?_<;>intro hB<;>(try exact AR)<;>go_step|refine Ei 110 ?_ ?_<;>intro hB<;>(try exact AR)<;>go_step|refine Jt 115 ?_ ?_<;>intro hB<;>(try exact AR)<;>go_step|refine H6 120 ?_ ?_<;>intro hB<;>(try exact AR)<;>go_step|refine Fh 124 ?_ ?_<;>intro hB<;>(try exact AR)<;>go_step|refine Im 95 ?_|refine FK 97 ?_|refine Im 103 ?_|refine FK 108 ?_|refine FK 113 ?_|refine Im 118 ?_|refine FK 122 ?_|refine FK 127 ?_|refine Fe 129 ?_|refine X3 134 ?_|refine X3 135 ?_|refine X3 136 ?_|refine X9 ?_|refine Fd ?_;clear hS;intro w hS|refine AG ?_;go_step|fail)
     all_goals (try exact AR)
     all_goals
      refine AK (xs:=[_,_,_]) rfl (.cons (AC.arr hS rfl (AO (n:=64) rfl) AL) (.cons (AC.tmp rfl) (.cons (AC.tmp rfl) (.nil)))) (by simp) rfl ?_
      exact Cv 4 HF2.out hS AV
    case neg=>
     have hr2:u0<0∨255<u0:=by omega
     clear hor2 hr
     repeat' (first
      | (refine AQ 69 ?_);refine Ad ?_;refine B5 rfl (.iface Z.tid Z.ptr) rfl [.bool false] rfl Z.f #[Z.ptr, .bool false] (Z.inv false) (Z.call _ _ _ s false _ _ _ _ _ hS AL HN2.out) ?_;clear hS;rintro e w ⟨rfl,hS⟩;refine Ac ?_;go_step|refine X0 ?_|refine X5 66 ?_|refine X3 70 ?_|refine X3 71 ?_|refine It 14 ?_;clear hS;intro g14 w hS|refine Il ?_;clear hS;intro w hS|refine AG ?_;go_step|fail)
     all_goals (try exact AR)
     repeat' (first
      | (refine AQ 89 ?_);refine AM (f:=121) Tryz.call121 AA ?_;refine ⟨_,(Cp u1 u2 _ hB2),?_⟩;rintro e w' ⟨rfl,rfl⟩;rw [HNb.out];refine Ac ?_;go_step|refine X0 ?_|refine Fe 73 ?_|refine Im 85 ?_|refine Zq 87 ?_|refine X3 90 ?_|refine X3 91 ?_|refine RV ?_|refine RT 82 ?_;clear hS;intro g82 w hS|refine Ur 83 ?_;clear hS;intro ad83 c83 w hS|refine X9 ?_|refine AG ?_;go_step|fail)
     all_goals (try exact AR)
     repeat' (first
      | (refine AQ 133 ?_);refine Ad ?_;refine BJ (f:=120) rfl rfl Tryz.call120 (CW _ _) ?_;rintro e w ⟨rfl,hE⟩;replace hS:=hS.ext hE;clear hE;refine Ac ?_;go_step|go_big_skip|refine X0 ?_|refine Iu ?_|refine Fh 93 ?_ ?_<;>intro hB<;>(try exact AR)<;>go_step|refine Fh 100 ?_ ?_<;>intro hB<;>(try exact AR)<;>go_step|refine Jt 105 ?_ ?_<;>intro hB<;>(try exact AR)<;>go_step|refine Ei 110 ?_ ?_<;>intro hB<;>(try exact AR)<;>go_step|refine Jt 115 ?_ ?_<;>intro hB<;>(try exact AR)<;>go_step|refine Im 95 ?_|refine FK 97 ?_|(refine AQ 99 ?_);(refine An AA (V.and rfl rfl) ?_;go_step)|refine Im 103 ?_|refine FK 108 ?_|refine FK 113 ?_|refine X3 134 ?_|refine X3 135 ?_|refine X3 136 ?_|refine X9 ?_|refine Fd ?_;clear hS;intro w hS|refine AG ?_;go_step|fail)
     all_goals (try exact AR)
     all_goals
      refine AK (xs:=[_,_,_]) rfl (.cons (AC.arr hS rfl (AO (n:=64) rfl) AL) (.cons (AC.tmp rfl) (.cons (AC.tmp rfl) (.nil)))) (by simp) rfl ?_
      exact Cv 4 HF2.out hS AV
   case false=>
    rw [if_neg (by simp)] at hlo
    have hgood:PH u1 u2=true∧u1≤11∧0≤u0∧u0≤255∧u1=u0%16∧(u1≠0∨u0=0∨u0=240):=by
     by_cases hB2:PH u1 u2=true
     ·refine ⟨hB2,?_⟩
      have hno:¬(11<u1∨u0<0∨255<u0∨u1≠u0%16∨(u1=0∧u0≠0∧u0≠240)):=fun h=>by have:=hiff.2 (.inr h);cases this
      omega
     have:=hiff.2 (.inl (by simpa using hB2));cases this
    obtain ⟨hB2,g1,g2,g3,g4,g5⟩:=hgood
    have HAnd:=AD (Uv u0 ⟨g2,g3⟩)
    obtain ⟨nb1,nb2,nb3⟩:=J3 u0 u1 u2 hB2
    have nb4:=nb3 g1
    obtain ⟨n2,hn2⟩:∃x,C0 (u0,u1,u2)=x:=⟨_,rfl⟩
    rw [hn2] at nb4 hlo
    have HNb:Hid (Dw u1.toNat u2.toNat=n2):=AD hn2
    clear hiff hbd hn2 nb1 nb2 nb3
    by_cases hend:u0=0
    case pos=>
     rw [if_pos hend] at hlo
     have HLo2:=AD hlo
     have HAl2:Hid ((all++[(u0,u1,u2)]).length=m+1):=AD (by rw [List.length_append,HAl.out];rfl)
     clear hlo HAl
     obtain ⟨al2,hal2⟩:∃x,all++[(u0,u1,u2)]=x:=⟨_,rfl⟩
     rw [hal2] at HLo2 HAl2 HFl
     clear hal2
     obtain ⟨zf,hzf⟩:∃x,Cc bl=x:=⟨_,rfl⟩
     have hzl:Al zf 64:=by rw [←hzf];exact EL bl
     have HZf:KI (Cc bl=zf):=⟨hzf⟩
     clear hzf
     repeat' (first
      | (refine AQ 69 ?_);refine Ad ?_;refine B5 rfl (.iface Z.tid Z.ptr) rfl [.bool false] rfl Z.f #[Z.ptr, .bool false] (Z.inv false) (Z.call _ _ _ s false _ _ _ _ _ hS AL HN2.out) ?_;clear hS;rintro e w ⟨rfl,hS⟩;refine Ac ?_;go_step|refine X0 ?_|refine X5 66 ?_|refine X3 70 ?_|refine X3 71 ?_|refine It 14 ?_;clear hS;intro g14 w hS|refine Il ?_;clear hS;intro w hS|refine AG ?_;go_step|fail)
     all_goals (try exact AR)
     repeat' (first
      | (refine AQ 89 ?_);refine AM (f:=121) Tryz.call121 AA ?_;refine ⟨_,(Cp u1 u2 _ hB2),?_⟩;rintro e w' ⟨rfl,rfl⟩;rw [HNb.out];refine Ac ?_;go_step|refine X0 ?_|refine Fe 73 ?_|refine Im 85 ?_|refine Zq 87 ?_|refine X3 90 ?_|refine X3 91 ?_|refine RV ?_|refine RT 82 ?_;clear hS;intro g82 w hS|refine Ur 83 ?_;clear hS;intro ad83 c83 w hS|refine X9 ?_|refine AG ?_;go_step|fail)
     all_goals (try exact AR)
     repeat' (first
      | refine dD 99 ?_|go_big_skip|refine X1 ?_|refine Iu ?_|refine Fh 93 ?_ ?_<;>intro hB<;>(try exact AR)<;>go_step|refine Fh 100 ?_ ?_<;>intro hB<;>(try exact AR)<;>go_step|refine Jt 105 ?_ ?_<;>intro hB<;>(try exact AR)<;>go_step|refine Ei 110 ?_ ?_<;>intro hB<;>(try exact AR)<;>go_step|refine Jt 115 ?_ ?_<;>intro hB<;>(try exact AR)<;>go_step|refine H6 120 ?_ ?_<;>intro hB<;>(try exact AR)<;>go_step|refine Fh 124 ?_ ?_<;>intro hB<;>(try exact AR)<;>go_step|refine Im 95 ?_|refine FK 97 ?_|refine Im 103 ?_|refine FK 108 ?_|refine FK 113 ?_|refine Im 118 ?_|refine FK 122 ?_|refine X9 ?_|refine AG ?_;go_step|fail)
     all_goals (try exact AR)
     repeat' (first
      | refine FK 137 ?_|refine KM 139 ?_|refine X9 ?_|refine AG ?_;go_step|fail)
     all_goals (try exact AR)
     repeat' (first
      | (refine As 67 ?_);refine At AA Tryz.call67 (Mt _ bl hbl.out) ?_;rintro e w ⟨rfl,hE⟩;rw [HZf.out];replace hS:=hS.ext hE;clear hE;refine Ac ?_;go_step|refine X1 ?_|refine Jm ?_|refine Fd ?_;clear hS;intro w hS|refine AG ?_;go_step|fail)
     all_goals (try exact AR)
     rw [←HFl.out] at hS
     have hzb:∀i,i<64→ -2047≤AJ zf i∧AJ zf i≤2047:=fun i hi=>by
      rw [←HZf.out];exact La bl HBl.out i hi
     have HZb:=AD hzb
     obtain ⟨T,hT⟩:∃T,BO before bl=T:=⟨_,rfl⟩
     have HTz:KI (BO before (FH zf)=T):=⟨by rw [←HZf.out,JI bl hbl.out,hT]⟩
     obtain ⟨NT,hNT⟩:∃N,T.length=N:=⟨_,rfl⟩
     have hNT64:NT≤64:=by rw [←hNT,←hT];exact (LN before bl hbl.out).2
     have HTl:=AD hNT
     have HRT:KI (DX Z.next before s0=if T=al2 then (0,zf,al2,s2) else (4,BY,[],s2)):=⟨by
      rw [HF.out,←HLo2.out]
      dsimp only
      rw [if_neg (by simp),hT,HZf.out]⟩
     clear hzb hT hNT
     by_cases hEq:T=al2
     case pos=>
      have HD:=AD (show decide (Ej T=Ej al2)=true from decide_eq_true (by rw [hEq]))
      have HRF:KI (DX Z.next before s0=(0,zf,al2,s2)):=⟨by rw [HRT.out,if_pos hEq]⟩
      clear hEq
      repeat' (first
       | (refine AQ 168 ?_);refine AM (f:=124) Tryz.call124 AA ?_;refine ⟨_,(Ee _ before zf hzl hb HZb.out),?_⟩;rintro e w ⟨a5,c5,rfl,hS2⟩;rw [HTz.out,HTl.out] at hS2;rw [HTz.out,HTl.out];replace hS:=hS.call1 hS2;clear hS2;refine Ac ?_;go_step|(refine AQ 170 ?_);refine AM (f:=123) Tryz.call123 AA ?_;refine ⟨_,(Ew _ a5 ad83 NT c5 (m+1) c83 (Ej T) (Ej al2) (hS.sl (a:=a5) AL) (hS.sl (a:=ad83) AL) (by omega) (by omega)),?_⟩;rintro e w ⟨he,hE⟩;rw [HD.out] at he;subst he;replace hS:=hS.ext hE;clear hE;refine Ac ?_;go_step|refine X0 ?_|refine bX 171 ?_|refine Jm ?_|refine Fd ?_;clear hS;intro w hS|refine AG ?_;go_step|fail)
      all_goals (try exact AR)
      refine AK (xs:=[_,_,_]) rfl (.cons (AC.arr hS rfl (AO (n:=64) rfl) AL) (.cons (AC.tmp rfl) (.cons (AC.tmp rfl) (.nil)))) (by simp) rfl ?_
      refine ⟨ad83,c83,?_,?_⟩
      ·rw [HRF.out];dsimp only;rw [HAl2.out];first|done|rfl
      rw [HRF.out];dsimp only;rw [HAl2.out];exact hS.sub AV
     case neg=>
      have HD:=AD (show decide (Ej T=Ej al2)=false from decide_eq_false (fun h=>hEq (NG h)))
      have HRF:DX Z.next before s0=(4,BY,[],s2):=by rw [HRT.out,if_neg hEq]
      have HRF2:KI (DX Z.next before s0=(4,BY,[],s2)):=⟨HRF⟩
      clear hEq HRF
      repeat' (first
       | (refine AQ 168 ?_);refine AM (f:=124) Tryz.call124 AA ?_;refine ⟨_,(Ee _ before zf hzl hb HZb.out),?_⟩;rintro e w ⟨a5,c5,rfl,hS2⟩;rw [HTz.out,HTl.out] at hS2;rw [HTz.out,HTl.out];replace hS:=hS.call1 hS2;clear hS2;refine Ac ?_;go_step|(refine AQ 170 ?_);refine AM (f:=123) Tryz.call123 AA ?_;refine ⟨_,(Ew _ a5 ad83 NT c5 (m+1) c83 (Ej T) (Ej al2) (hS.sl (a:=a5) AL) (hS.sl (a:=ad83) AL) (by omega) (by omega)),?_⟩;rintro e w ⟨he,hE⟩;rw [HD.out] at he;subst he;replace hS:=hS.ext hE;clear hE;refine Ac ?_;go_step|(refine AQ 173 ?_);refine Ad ?_;refine BJ (f:=120) rfl rfl Tryz.call120 (CW _ _) ?_;rintro e w ⟨rfl,hE⟩;replace hS:=hS.ext hE;clear hE;refine Ac ?_;go_step|refine X0 ?_|refine bX 171 ?_|refine X3 174 ?_|refine X3 175 ?_|refine X3 176 ?_|refine Fd ?_;clear hS;intro w hS|refine AG ?_;go_step|fail)
      all_goals (try exact AR)
      refine AK (xs:=[_,_,_]) rfl (.cons (AC.arr hS rfl (AO (n:=64) rfl) AL) (.cons (AC.tmp rfl) (.cons (AC.tmp rfl) (.nil)))) (by simp) rfl ?_
      exact Cv 4 HRF2.out hS AV
    case neg=>
     rw [if_neg hend] at hlo
     by_cases hlong:u0=240
     case pos=>
      rw [if_pos hlong] at hlo
      by_cases hov:64<at_+16
      case pos=>
       rw [if_pos hov] at hlo
       have HF2:Hid (DX Z.next before s0=(4,BY,[],s2)):=AD (by rw [HF.out,←hlo];exact if_pos (show (4:Int)≠0 by decide))
       clear hlo
       repeat' (first
        | (refine AQ 69 ?_);refine Ad ?_;refine B5 rfl (.iface Z.tid Z.ptr) rfl [.bool false] rfl Z.f #[Z.ptr, .bool false] (Z.inv false) (Z.call _ _ _ s false _ _ _ _ _ hS AL HN2.out) ?_;clear hS;rintro e w ⟨rfl,hS⟩;refine Ac ?_;go_step|refine X0 ?_|refine X5 66 ?_|refine X3 70 ?_|refine X3 71 ?_|refine It 14 ?_;clear hS;intro g14 w hS|refine Il ?_;clear hS;intro w hS|refine AG ?_;go_step|fail)
       all_goals (try exact AR)
       repeat' (first
        | (refine AQ 89 ?_);refine AM (f:=121) Tryz.call121 AA ?_;refine ⟨_,(Cp u1 u2 _ hB2),?_⟩;rintro e w' ⟨rfl,rfl⟩;rw [HNb.out];refine Ac ?_;go_step|refine X0 ?_|refine Fe 73 ?_|refine Im 85 ?_|refine Zq 87 ?_|refine X3 90 ?_|refine X3 91 ?_|refine RV ?_|refine RT 82 ?_;clear hS;intro g82 w hS|refine Ur 83 ?_;clear hS;intro ad83 c83 w hS|refine X9 ?_|refine AG ?_;go_step|fail)
       all_goals (try exact AR)
       repeat' (first
        | refine dD 99 ?_|refine X1 ?_|refine Iu ?_|refine Fh 93 ?_ ?_<;>intro hB<;>(try exact AR)<;>go_step|refine Fh 100 ?_ ?_<;>intro hB<;>(try exact AR)<;>go_step|refine Jt 105 ?_ ?_<;>intro hB<;>(try exact AR)<;>go_step|refine Ei 110 ?_ ?_<;>intro hB<;>(try exact AR)<;>go_step|refine Jt 115 ?_ ?_<;>intro hB<;>(try exact AR)<;>go_step|refine H6 120 ?_ ?_<;>intro hB<;>(try exact AR)<;>go_step|refine Fh 124 ?_ ?_<;>intro hB<;>(try exact AR)<;>go_step|refine Im 95 ?_|refine FK 97 ?_|refine Im 103 ?_|refine FK 108 ?_|refine FK 113 ?_|refine Im 118 ?_|refine FK 122 ?_|refine FK 127 ?_|refine Fe 129 ?_|refine X9 ?_|refine AG ?_;go_step|fail)
       all_goals (try exact AR)
       repeat' (first
        | (refine AQ 160 ?_);refine Ad ?_;refine BJ (f:=120) rfl rfl Tryz.call120 (CW _ _) ?_;rintro e w ⟨rfl,hE⟩;replace hS:=hS.ext hE;clear hE;refine Ac ?_;go_step|refine X0 ?_|refine FK 137 ?_|refine KM 139 ?_|refine FK 140 ?_|refine KM 142 ?_|refine Mx 144 ?_|refine KN 158 ?_|refine X3 161 ?_|refine X3 162 ?_|refine X3 163 ?_|refine X9 ?_|refine Fd ?_;clear hS;intro w hS|refine AG ?_;go_step|fail)
       all_goals (try exact AR)
       all_goals
        refine AK (xs:=[_,_,_]) rfl (.cons (AC.arr hS rfl (AO (n:=64) rfl) AL) (.cons (AC.tmp rfl) (.cons (AC.tmp rfl) (.nil)))) (by simp) rfl ?_
        exact Cv 4 HF2.out hS AV
      case neg=>
       rw [if_neg hov] at hlo
       have HLo2:=AD hlo
       clear hlo
       repeat' (first
        | (refine AQ 69 ?_);refine Ad ?_;refine B5 rfl (.iface Z.tid Z.ptr) rfl [.bool false] rfl Z.f #[Z.ptr, .bool false] (Z.inv false) (Z.call _ _ _ s false _ _ _ _ _ hS AL HN2.out) ?_;clear hS;rintro e w ⟨rfl,hS⟩;refine Ac ?_;go_step|refine X0 ?_|refine X5 66 ?_|refine X3 70 ?_|refine X3 71 ?_|refine It 14 ?_;clear hS;intro g14 w hS|refine Il ?_;clear hS;intro w hS|refine AG ?_;go_step|fail)
       all_goals (try exact AR)
       repeat' (first
        | (refine AQ 89 ?_);refine AM (f:=121) Tryz.call121 AA ?_;refine ⟨_,(Cp u1 u2 _ hB2),?_⟩;rintro e w' ⟨rfl,rfl⟩;rw [HNb.out];refine Ac ?_;go_step|refine X0 ?_|refine Fe 73 ?_|refine Im 85 ?_|refine Zq 87 ?_|refine X3 90 ?_|refine X3 91 ?_|refine RV ?_|refine RT 82 ?_;clear hS;intro g82 w hS|refine Ur 83 ?_;clear hS;intro ad83 c83 w hS|refine X9 ?_|refine AG ?_;go_step|fail)
       all_goals (try exact AR)
       repeat' (first
        | refine dD 99 ?_|refine X1 ?_|refine Iu ?_|refine Fh 93 ?_ ?_<;>intro hB<;>(try exact AR)<;>go_step|refine Fh 100 ?_ ?_<;>intro hB<;>(try exact AR)<;>go_step|refine Jt 105 ?_ ?_<;>intro hB<;>(try exact AR)<;>go_step|refine Ei 110 ?_ ?_<;>intro hB<;>(try exact AR)<;>go_step|refine Jt 115 ?_ ?_<;>intro hB<;>(try exact AR)<;>go_step|refine H6 120 ?_ ?_<;>intro hB<;>(try exact AR)<;>go_step|refine Fh 124 ?_ ?_<;>intro hB<;>(try exact AR)<;>go_step|refine Im 95 ?_|refine FK 97 ?_|refine Im 103 ?_|refine FK 108 ?_|refine FK 113 ?_|refine Im 118 ?_|refine FK 122 ?_|refine FK 127 ?_|refine Fe 129 ?_|refine X9 ?_|refine AG ?_;go_step|fail)
       all_goals (try exact AR)
       repeat' (first
        | refine X0 ?_|refine FK 137 ?_|refine KM 139 ?_|refine FK 140 ?_|refine KM 142 ?_|refine Mx 144 ?_|refine KN 158 ?_|refine X9 ?_|refine AG ?_;go_step|fail)
       all_goals (try exact AR)
       go_roundg gk'
       case measure=>omega
       case rel=>exact ⟨at_+16,m+1,bl,all++[(u0,u1,u2)],ad83,c83,s2,by omega,by omega,by omega,by omega,by go_num,rfl,AD (by rw [List.length_append,HAl.out];rfl),hbl,HBl,HLo2,(by rw [HFl.out];exact hS.sub AV)⟩
     case neg=>
      rw [if_neg hlong] at hlo
      obtain ⟨r,hr⟩:∃r:Nat,u0/16=(r:Int):=⟨(u0/16).toNat,by omega⟩
      have hr2:u0.toNat/16=r:=by omega
      have hr15:r≤15:=by omega
      rw [hr2] at hlo
      have HR4:Hid (u0/2^4=(r:Int)):=AD (by rw [show (2:Int)^4=16 from rfl];exact hr)
      clear hr hr2
      by_cases hov:64≤at_+r
      case pos=>
       rw [if_pos hov] at hlo
       have HF2:Hid (DX Z.next before s0=(4,BY,[],s2)):=AD (by rw [HF.out,←hlo];exact if_pos (show (4:Int)≠0 by decide))
       clear hlo
       repeat' (first
        | (refine AQ 69 ?_);refine Ad ?_;refine B5 rfl (.iface Z.tid Z.ptr) rfl [.bool false] rfl Z.f #[Z.ptr, .bool false] (Z.inv false) (Z.call _ _ _ s false _ _ _ _ _ hS AL HN2.out) ?_;clear hS;rintro e w ⟨rfl,hS⟩;refine Ac ?_;go_step|refine X0 ?_|refine X5 66 ?_|refine X3 70 ?_|refine X3 71 ?_|refine It 14 ?_;clear hS;intro g14 w hS|refine Il ?_;clear hS;intro w hS|refine AG ?_;go_step|fail)
       all_goals (try exact AR)
       repeat' (first
        | (refine AQ 89 ?_);refine AM (f:=121) Tryz.call121 AA ?_;refine ⟨_,(Cp u1 u2 _ hB2),?_⟩;rintro e w' ⟨rfl,rfl⟩;rw [HNb.out];refine Ac ?_;go_step|refine X0 ?_|refine Fe 73 ?_|refine Im 85 ?_|refine Zq 87 ?_|refine X3 90 ?_|refine X3 91 ?_|refine RV ?_|refine RT 82 ?_;clear hS;intro g82 w hS|refine Ur 83 ?_;clear hS;intro ad83 c83 w hS|refine X9 ?_|refine AG ?_;go_step|fail)
       all_goals (try exact AR)
       repeat' (first
        | refine dD 99 ?_|go_big_skip|refine X1 ?_|refine H7 ?_|refine Fh 93 ?_ ?_<;>intro hB<;>(try exact AR)<;>go_step|refine Fh 100 ?_ ?_<;>intro hB<;>(try exact AR)<;>go_step|refine Jt 105 ?_ ?_<;>intro hB<;>(try exact AR)<;>go_step|refine Ei 110 ?_ ?_<;>intro hB<;>(try exact AR)<;>go_step|refine Jt 115 ?_ ?_<;>intro hB<;>(try exact AR)<;>go_step|refine H6 120 ?_ ?_<;>intro hB<;>(try exact AR)<;>go_step|refine Im 95 ?_|refine FK 97 ?_|refine Im 103 ?_|refine FK 108 ?_|refine FK 113 ?_|refine Im 118 ?_|refine X9 ?_|refine AG ?_;go_step|fail)
       all_goals (try exact AR)
       repeat' (first
        | (refine AQ 148 ?_);(refine Ag (.int _ (((r:Nat):Int))) (V.as (V.shr rfl rfl A9 (by omega) rfl) (by exact HR4.out)) (by kernel_rfl) ?_;go_step)|(refine AQ 160 ?_);refine Ad ?_;refine BJ (f:=120) rfl rfl Tryz.call120 (CW _ _) ?_;rintro e w ⟨rfl,hE⟩;replace hS:=hS.ext hE;clear hE;refine Ac ?_;go_step|refine X0 ?_|refine FK 137 ?_|refine KM 139 ?_|refine FK 140 ?_|refine KM 142 ?_|refine FK 146 ?_|refine Mx 149 ?_|refine X5 151 ?_|refine Mx 156 ?_|refine KN 158 ?_|refine X3 161 ?_|refine X3 162 ?_|refine X3 163 ?_|refine X9 ?_|refine Fd ?_;clear hS;intro w hS|refine AG ?_;go_step|fail)
       all_goals (try exact AR)
       all_goals
        refine AK (xs:=[_,_,_]) rfl (.cons (AC.arr hS rfl (AO (n:=64) rfl) AL) (.cons (AC.tmp rfl) (.cons (AC.tmp rfl) (.nil)))) (by simp) rfl ?_
        exact Cv 4 HF2.out hS AV
      case neg=>
       rw [if_neg hov] at hlo
       have HLo2:=AD hlo
       have HBl2:Hid (∀i,i<64→ -2047≤AJ (bl.set (at_+r) n2) i∧AJ (bl.set (at_+r) n2) i≤2047):=AD fun i hi=>by
        rw [CN _ _ _ _ (by rw [hbl.out];omega)]
        split
        ·omega
        exact HBl.out i hi
       have hbl2:Al (bl.set (at_+r) n2) 64:=Al.set hbl
       clear hlo
       repeat' (first
        | (refine AQ 69 ?_);refine Ad ?_;refine B5 rfl (.iface Z.tid Z.ptr) rfl [.bool false] rfl Z.f #[Z.ptr, .bool false] (Z.inv false) (Z.call _ _ _ s false _ _ _ _ _ hS AL HN2.out) ?_;clear hS;rintro e w ⟨rfl,hS⟩;refine Ac ?_;go_step|refine X0 ?_|refine X5 66 ?_|refine X3 70 ?_|refine X3 71 ?_|refine It 14 ?_;clear hS;intro g14 w hS|refine Il ?_;clear hS;intro w hS|refine AG ?_;go_step|fail)
       all_goals (try exact AR)
       repeat' (first
        | (refine AQ 89 ?_);refine AM (f:=121) Tryz.call121 AA ?_;refine ⟨_,(Cp u1 u2 _ hB2),?_⟩;rintro e w' ⟨rfl,rfl⟩;rw [HNb.out];refine Ac ?_;go_step|refine X0 ?_|refine Fe 73 ?_|refine Im 85 ?_|refine Zq 87 ?_|refine X3 90 ?_|refine X3 91 ?_|refine RV ?_|refine RT 82 ?_;clear hS;intro g82 w hS|refine Ur 83 ?_;clear hS;intro ad83 c83 w hS|refine X9 ?_|refine AG ?_;go_step|fail)
       all_goals (try exact AR)
       repeat' (first
        | refine dD 99 ?_|go_big_skip|refine X1 ?_|refine H7 ?_|refine Fh 93 ?_ ?_<;>intro hB<;>(try exact AR)<;>go_step|refine Fh 100 ?_ ?_<;>intro hB<;>(try exact AR)<;>go_step|refine Jt 105 ?_ ?_<;>intro hB<;>(try exact AR)<;>go_step|refine Ei 110 ?_ ?_<;>intro hB<;>(try exact AR)<;>go_step|refine Jt 115 ?_ ?_<;>intro hB<;>(try exact AR)<;>go_step|refine H6 120 ?_ ?_<;>intro hB<;>(try exact AR)<;>go_step|refine Im 95 ?_|refine FK 97 ?_|refine Im 103 ?_|refine FK 108 ?_|refine FK 113 ?_|refine Im 118 ?_|refine X9 ?_|refine AG ?_;go_step|fail)
       all_goals (try exact AR)
       repeat' (first
        | (refine AQ 148 ?_);(refine Ag (.int _ (((r:Nat):Int))) (V.as (V.shr rfl rfl A9 (by omega) rfl) (by exact HR4.out)) (by kernel_rfl) ?_;go_step)|refine X0 ?_|refine FK 137 ?_|refine KM 139 ?_|refine FK 140 ?_|refine KM 142 ?_|refine FK 146 ?_|refine Mx 149 ?_|refine X5 151 ?_|refine YA 154 ?_|refine Mx 156 ?_|refine KN 158 ?_|refine X9 ?_|refine Xg ?_;clear hS;intro w hS|refine AG ?_;go_step|fail)
       all_goals (try exact AR)
       go_roundg gk'
       case measure=>omega
       case rel=>exact ⟨at_+r+1,m+1,bl.set (at_+r) n2,all++[(u0,u1,u2)],ad83,c83,s2,by omega,by omega,by omega,by omega,by go_num,rfl,AD (by rw [List.length_append,HAl.out];rfl),hbl2,HBl2,HLo2,(by rw [HFl.out];exact hS.sub AV)⟩
  have hlo:=HLo.out
  have hR0:R=(0,bl,all,s):=by
   cases gk with
   | zero=>rw [←hlo,BH]
   | succ g=>rw [←hlo,BH,if_pos (by omega)]
  have HLo2:Hid ((0,bl,all,s)=R):=AD hR0.symm
  have HAl2:Hid (all.length=m):=HAl
  clear hlo hR0 HLo
  obtain ⟨zf,hzf⟩:∃x,Cc bl=x:=⟨_,rfl⟩
  have hzl:Al zf 64:=by rw [←hzf];exact EL bl
  have HZf:KI (Cc bl=zf):=⟨hzf⟩
  clear hzf
  repeat' (first
   | refine X1 ?_|refine X5 66 ?_|refine AG ?_;go_step|fail)
  all_goals (try exact AR)
  repeat' (first
   | (refine As 67 ?_);refine At AA Tryz.call67 (Mt _ bl hbl.out) ?_;rintro e w ⟨rfl,hE⟩;rw [HZf.out];replace hS:=hS.ext hE;clear hE;refine Ac ?_;go_step|refine X1 ?_|refine Jm ?_|refine Fd ?_;clear hS;intro w hS|refine AG ?_;go_step|fail)
  have hzb:∀i,i<64→ -2047≤AJ zf i∧AJ zf i≤2047:=fun i hi=>by
   rw [←HZf.out];exact La bl HBl.out i hi
  have HZb:=AD hzb
  obtain ⟨T,hT⟩:∃T,BO before bl=T:=⟨_,rfl⟩
  have HTz:KI (BO before (FH zf)=T):=⟨by rw [←HZf.out,JI bl hbl.out,hT]⟩
  obtain ⟨NT,hNT⟩:∃N,T.length=N:=⟨_,rfl⟩
  have hNT64:NT≤64:=by rw [←hNT,←hT];exact (LN before bl hbl.out).2
  have HTl:=AD hNT
  have HRT:KI (DX Z.next before s0=if T=all then (0,zf,all,s) else (4,BY,[],s)):=⟨by
   rw [HF.out,←HLo2.out]
   dsimp only
   rw [if_neg (by simp),hT,HZf.out]⟩
  clear hzb hT hNT
  by_cases hEq:T=all
  case pos=>
   have HD:=AD (show decide (Ej T=Ej all)=true from decide_eq_true (by rw [hEq]))
   have HRF:KI (DX Z.next before s0=(0,zf,all,s)):=⟨by rw [HRT.out,if_pos hEq]⟩
   clear hEq
   repeat' (first
    | (refine AQ 168 ?_);refine AM (f:=124) Tryz.call124 AA ?_;refine ⟨_,(Ee _ before zf hzl hb HZb.out),?_⟩;rintro e w ⟨a5,c5,rfl,hS2⟩;rw [HTz.out,HTl.out] at hS2;rw [HTz.out,HTl.out];replace hS:=hS.call1 hS2;clear hS2;refine Ac ?_;go_step|(refine AQ 170 ?_);refine AM (f:=123) Tryz.call123 AA ?_;refine ⟨_,(Ew _ a5 a' NT c5 (m) c' (Ej T) (Ej all) (hS.sl (a:=a5) AL) (hS.sl (a:=a') AL) (by omega) (by omega)),?_⟩;rintro e w ⟨he,hE⟩;rw [HD.out] at he;subst he;replace hS:=hS.ext hE;clear hE;refine Ac ?_;go_step|refine X0 ?_|refine bX 171 ?_|refine Jm ?_|refine Fd ?_;clear hS;intro w hS|refine AG ?_;go_step|fail)
   all_goals (try exact AR)
   refine AK (xs:=[_,_,_]) rfl (.cons (AC.arr hS rfl (AO (n:=64) rfl) AL) (.cons (AC.tmp rfl) (.cons (AC.tmp rfl) (.nil)))) (by simp) rfl ?_
   refine ⟨a',c',?_,?_⟩
   ·rw [HRF.out];dsimp only;rw [HAl2.out];first|done|rfl
   rw [HRF.out];dsimp only;rw [HAl2.out];exact hS.sub AV
  case neg=>
   have HD:=AD (show decide (Ej T=Ej all)=false from decide_eq_false (fun h=>hEq (NG h)))
   have HRF:DX Z.next before s0=(4,BY,[],s):=by rw [HRT.out,if_neg hEq]
   have HRF2:KI (DX Z.next before s0=(4,BY,[],s)):=⟨HRF⟩
   clear hEq HRF
   repeat' (first
    | (refine AQ 168 ?_);refine AM (f:=124) Tryz.call124 AA ?_;refine ⟨_,(Ee _ before zf hzl hb HZb.out),?_⟩;rintro e w ⟨a5,c5,rfl,hS2⟩;rw [HTz.out,HTl.out] at hS2;rw [HTz.out,HTl.out];replace hS:=hS.call1 hS2;clear hS2;refine Ac ?_;go_step|(refine AQ 170 ?_);refine AM (f:=123) Tryz.call123 AA ?_;refine ⟨_,(Ew _ a5 a' NT c5 (m) c' (Ej T) (Ej all) (hS.sl (a:=a5) AL) (hS.sl (a:=a') AL) (by omega) (by omega)),?_⟩;rintro e w ⟨he,hE⟩;rw [HD.out] at he;subst he;replace hS:=hS.ext hE;clear hE;refine Ac ?_;go_step|(refine AQ 173 ?_);refine Ad ?_;refine BJ (f:=120) rfl rfl Tryz.call120 (CW _ _) ?_;rintro e w ⟨rfl,hE⟩;replace hS:=hS.ext hE;clear hE;refine Ac ?_;go_step|refine X0 ?_|refine bX 171 ?_|refine X3 174 ?_|refine X3 175 ?_|refine X3 176 ?_|refine Fd ?_;clear hS;intro w hS|refine AG ?_;go_step|fail)
   all_goals (try exact AR)
   refine AK (xs:=[_,_,_]) rfl (.cons (AC.arr hS rfl (AO (n:=64) rfl) AL) (.cons (AC.tmp rfl) (.cons (AC.tmp rfl) (.nil)))) (by simp) rfl ?_
   exact Cv 4 HRF2.out hS AV
end Go.Proofs.YtohacgmhmbijmaaGreatDoor
