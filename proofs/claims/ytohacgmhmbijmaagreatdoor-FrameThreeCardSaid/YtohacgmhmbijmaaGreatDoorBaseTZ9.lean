/- What the laws FrameThree need, part 9. -/
import Derived.Test.YtohacgmhmbijmaaGreatDoorBaseTZ2
import Derived.Test.YtohacgmhmbijmaaGreatDoorBaseTZ3
import Derived.Test.YtohacgmhmbijmaaGreatDoorBaseTZ8
namespace Go.Proofs.YtohacgmhmbijmaaGreatDoor
attribute [local irreducible] Region.wanted
open Go.RowKit
set_option linter.unusedVariables false
set_option maxRecDepth 100000
set_option maxHeartbeats 8000000
theorem T6{W:World}{σ:Type}(Z:bC W σ)(w0:World)(rs rs':List Au)(s0:σ)(before:Int)(hb: -2047≤before∧before≤2047)(hS:St W w0 rs)(hp:AT (Z.res s0) rs rs'):
 Calls Tryz.prog 88 #[.int .i64 before, .iface Z.tid Z.ptr] w0 (IF Z before s0 rs'):=by
 by_cases hgood:(Z.next s0 true).2.1=0∧Bk before (Z.next s0 true).1=true
 case neg=>exact T7 Z w0 rs rs' s0 before hb hS hp hgood
 replace hS:=hS.pull hp
 have hZ0:Ap BY 64:=List.length_replicate
 clear hp
 obtain ⟨⟨⟨t0,t1,t2⟩,er,s1⟩,hn⟩:∃x,Z.next s0 true=x:=⟨_,rfl⟩
 rw [hn] at hgood
 obtain ⟨he,hfst⟩:=hgood
 dsimp only at he hfst
 subst he
 have hf2:=hfst
 unfold Bk at hf2
 simp only [Bool.and_eq_true,decide_eq_true_eq] at hf2
 obtain ⟨⟨⟨q1,q2⟩,q3⟩,q4⟩:=hf2
 subst q3
 have hB:OP t0 t2=true:=by unfold OP;rw [decide_eq_true q1,decide_eq_true q2];rfl
 obtain ⟨n,hnum⟩:∃n,Cw (t0,t0,t2)=n:=⟨_,rfl⟩
 have hnb:=JV t0 t0 t2 hB
 rw [hnum] at hnb
 obtain ⟨hn1,hn2,_⟩:=hnb
 have HNum:Hid (Df t0.toNat t2.toNat=n):=AD hnum
 rw [hnum] at q4
 have hco: -2047≤before+n∧before+n≤2047:=q4
 have HQ:Hid (Vo (before+n)=true):=AD ((Fz _).2 hco)
 have HFirst:Hid (Bk before (t0,t0,t2)=true):=AD hfst
 have HN:=AD hn
 clear q1 q2 q4 hfst
 obtain ⟨R,hR⟩:∃R,BN Z.next 64 1 (B6 (before+n)) [(t0,t0,t2)] s1=R:=⟨_,rfl⟩
 have HF:Hid (DM Z.next before s0=if R.1≠0 then (R.1,BY,[],R.2.2.2) else if BV before R.2.1=R.2.2.1 then (0,CX R.2.1,R.2.2.1,R.2.2.2) else (4,BY,[],R.2.2.2)):=AD (by
  unfold DM;rw [hn];dsimp only
  rw [if_neg (by simp),if_neg (by rw [HFirst.out];simp),hnum,hR];rfl)
 have HR:=AD hR
 have hfl:Ap (B6 (before+n)) 64:=Ap.set Ap.rep
 have HFb:Hid (∀i,i<64→ -2047≤AK (B6 (before+n)) i∧AK (B6 (before+n)) i≤2047):=AD fun i hi=>by
  unfold B6
  rw [CL _ _ _ _ (by simp)]
  split
  ·exact hco
  rw [Du];omega
 clear hn hnum hR hco
 go_enter Tryz.func88,Tryz.ntmps88
 repeat' (first
  | (refine AS 19 ?_);refine Ag ?_;refine B4 rfl (.iface Z.tid Z.ptr) rfl [.bool true] rfl Z.f #[Z.ptr, .bool true] (Z.inv true) (Z.call _ _ _ s0 true _ _ _ _ _ hS AJ HN.out) ?_;clear hS;rintro e w ⟨rfl,hS⟩;refine Ae ?_;go_step|(refine AS 37 ?_);refine AN (f:=121) Tryz.call121 AA ?_;refine ⟨_,(Cn t0 t2 _ hB),?_⟩;rintro e w' ⟨rfl,rfl⟩;rw [HNum.out];refine Ae ?_;go_step|(refine A3 122 ?_);refine A4 AA Tryz.call122 (DQ (before+n) _) ?_;rintro e w' ⟨rfl,rfl⟩;rw [HQ.out];refine Ae ?_;go_step|refine bO 31 ?_;clear hS;intro g31 w hS|refine X0 ?_|refine Gz ?_|refine Es 41 ?_ ?_<;>intro hB<;>(try exact AW)<;>go_step|refine Es 47 ?_ ?_<;>intro hB<;>(try exact AW)<;>go_step|refine X6 ?_|refine X3 ?_|refine QS ?_|refine Zb ?_|refine bm ?_|refine X7 ?_|refine NW ?_|(refine AS 64 ?_);(refine As AA (V.build (vs:=[(0,_)]) rfl (Zm _)) ?_;go_step)|refine JL 4 ?_;clear hS;intro g4 w hS|refine II 8 ?_;clear hS;intro g8 w hS|refine H9 ?_;clear hS;intro w hS|refine Ew ?_;clear hS;intro w hS|refine QT ?_|refine X9 ?_|refine JL 12 ?_;clear hS;intro g12 w hS|refine AG ?_;go_step|fail)
 all_goals (try exact AW)
 replace hS:=hS.sub (xs:=arr g12 64 ((List.replicate 64 0).set 0 (before+n))::own 155 3 (some ⟨g31,0,none⟩) 1 1 [.int .i64 t0, .int .i64 t0, .int .i64 t2]::arr g4 64 (List.replicate 64 0)::Z.res s1::rs') AV
 go_loopg [10,13] 64 (fun gk ov av w=>∃(at_ m:Nat) (bl:List Int) (all:List CF) (a':Option Addr) (c':Nat) (s:σ),65≤gk+at_∧1≤at_∧at_≤64∧m≤at_∧av= .int .i64 at_∧ov= .slice a' m c'∧Hid (all.length=m)∧Ap bl 64∧Hid (∀i,i<64→ -2047≤AK bl i∧AK bl i≤2047)∧Hid (BN Z.next gk at_ bl all s=R)∧
  St W w (arr g12 64 bl::own 155 3 a' m c' ((EI all).map (Value.int .i64))::arr g4 64 (List.replicate 64 0)::Z.res s::rs'))
 case atStart=>exact ⟨1,1,B6 (before+n),[(t0,t0,t2)],_,_,s1,by omega,by omega,by omega,by omega,rfl,rfl,AD rfl,hfl,HFb,HR,hS⟩
 case round=>
  clear hS HFb hfl
  obtain ⟨at_,m,bl,all,a',c',s,hga,h1a,ha64,hma,rfl,rfl,HAl,hbl,HBl,HLo,hS⟩:=hrel
  by_cases hlt:at_<64
  ·obtain ⟨gk',rfl⟩:∃x,gk=x+1:=⟨gk-1,by omega⟩
   obtain ⟨⟨⟨u0,u1,u2⟩,er,s2⟩,hn⟩:∃x,Z.next s false=x:=⟨_,rfl⟩
   have hlo:=HLo.out
   rw [BN,if_neg (by omega),hn] at hlo
   dsimp only at hlo
   have HN2:=AD hn
   clear hn HLo
   by_cases he:er=0
   case neg=>
    rw [if_pos he] at hlo
    have HF2:Hid (DM Z.next before s0=(er,BY,[],s2)):=AD (by rw [HF.out,←hlo];exact if_pos he)
    clear hlo
    repeat' (first
     | (refine AS 69 ?_);refine Ag ?_;refine B4 rfl (.iface Z.tid Z.ptr) rfl [.bool false] rfl Z.f #[Z.ptr, .bool false] (Z.inv false) (Z.call _ _ _ s false _ _ _ _ _ hS AJ HN2.out) ?_;clear hS;rintro e w ⟨rfl,hS⟩;refine Ae ?_;go_step|refine X0 ?_|refine X4 66 ?_|refine X5 70 ?_|refine X5 71 ?_|refine II 14 ?_;clear hS;intro g14 w hS|refine H9 ?_;clear hS;intro w hS|refine AG ?_;go_step|fail)
    all_goals (try exact AW)
    repeat' (first
     | (refine AS 76 ?_);refine Ag ?_;refine BQ (f:=120) rfl rfl Tryz.call120 (CR _ _) ?_;rintro e w ⟨rfl,hE⟩;replace hS:=hS.ext hE;clear hE;refine Ae ?_;go_step|refine X0 ?_|refine JE 73 ?_|refine X5 77 ?_|refine X5 78 ?_|refine X5 79 ?_|refine Ew ?_;clear hS;intro w hS|refine AG ?_;go_step|fail)
    refine AM (xs:=[_,_,_]) rfl (.cons (AC.arr hS rfl (AP (n:=64) rfl) AJ) (.cons (AC.tmp rfl) (.cons (AC.tmp rfl) (.nil)))) (by simp) rfl ?_
    exact Cr er HF2.out hS AV
   subst he
   rw [if_neg (by simp)] at hlo
   obtain ⟨bd,hbd⟩:∃b,K5 (u0,u1,u2)=b:=⟨_,rfl⟩
   have hiff:=QY u0 u1 u2
   rw [hbd] at hiff hlo
   have HFl:=AD (J3 all (u0,u1,u2))
   dsimp only at HFl
   cases bd
   case true=>
    rw [if_pos rfl] at hlo
    have HF2:Hid (DM Z.next before s0=(4,BY,[],s2)):=AD (by rw [HF.out,←hlo];exact if_pos (show (4:Int)≠0 by decide))
    have hor:=hiff.1 rfl
    clear hlo hiff hbd
    by_cases hB2:OP u1 u2=true
    case neg=>
     have hB3:OP u1 u2=false:=by simpa using hB2
     clear hor hB2
     repeat' (first
      | (refine AS 69 ?_);refine Ag ?_;refine B4 rfl (.iface Z.tid Z.ptr) rfl [.bool false] rfl Z.f #[Z.ptr, .bool false] (Z.inv false) (Z.call _ _ _ s false _ _ _ _ _ hS AJ HN2.out) ?_;clear hS;rintro e w ⟨rfl,hS⟩;refine Ae ?_;go_step|refine X0 ?_|refine X4 66 ?_|refine X5 70 ?_|refine X5 71 ?_|refine II 14 ?_;clear hS;intro g14 w hS|refine H9 ?_;clear hS;intro w hS|refine AG ?_;go_step|fail)
     all_goals (try exact AW)
     repeat' (first
      | (refine AS 89 ?_);refine AN (f:=121) Tryz.call121 AA ?_;refine ⟨_,(QX u1 u2 _ hB3),?_⟩;rintro e w' ⟨rfl,rfl⟩;refine Ae ?_;go_step|refine X0 ?_|refine JE 73 ?_|refine IB 85 ?_|refine YI 87 ?_|refine X5 90 ?_|refine X5 91 ?_|refine QT ?_|refine QR 82 ?_;clear hS;intro g82 w hS|refine TS 83 ?_;clear hS;intro ad83 c83 w hS|refine X9 ?_|refine AG ?_;go_step|fail)
     all_goals (try exact AW)
     repeat' (first
      | (refine AS 133 ?_);refine Ag ?_;refine BQ (f:=120) rfl rfl Tryz.call120 (CR _ _) ?_;rintro e w ⟨rfl,hE⟩;replace hS:=hS.ext hE;clear hE;refine Ae ?_;go_step|go_big_skip|refine X0 ?_|refine FJ ?_|refine Es 93 ?_ ?_<;>intro hB<;>(try exact AW)<;>go_step|refine X5 134 ?_|refine X5 135 ?_|refine X5 136 ?_|refine Ew ?_;clear hS;intro w hS|refine AG ?_;go_step|fail)
     all_goals (try exact AW)
     all_goals
      refine AM (xs:=[_,_,_]) rfl (.cons (AC.arr hS rfl (AP (n:=64) rfl) AJ) (.cons (AC.tmp rfl) (.cons (AC.tmp rfl) (.nil)))) (by simp) rfl ?_
      exact Cr 4 HF2.out hS AV
    have hor2:11<u1∨u0<0∨255<u0∨u1≠u0%16∨(u1=0∧u0≠0∧u0≠240):=by
     rcases hor with h|h
     ·rw [hB2] at h;cases h
     exact h
    clear hor
    obtain ⟨n2,hn2⟩:∃x,Df u1.toNat u2.toNat=x:=⟨_,rfl⟩
    have HNb:=AD hn2
    clear hn2
    by_cases hr:0≤u0∧u0≤255
    case pos=>
     have HAnd:=AD (TZ u0 hr)
     have hor3:11<u1∨u1≠u0%16∨(u1=0∧u0≠0∧u0≠240):=by omega
     clear hor2
     repeat' (first
      | (refine AS 69 ?_);refine Ag ?_;refine B4 rfl (.iface Z.tid Z.ptr) rfl [.bool false] rfl Z.f #[Z.ptr, .bool false] (Z.inv false) (Z.call _ _ _ s false _ _ _ _ _ hS AJ HN2.out) ?_;clear hS;rintro e w ⟨rfl,hS⟩;refine Ae ?_;go_step|refine X0 ?_|refine X4 66 ?_|refine X5 70 ?_|refine X5 71 ?_|refine II 14 ?_;clear hS;intro g14 w hS|refine H9 ?_;clear hS;intro w hS|refine AG ?_;go_step|fail)
     all_goals (try exact AW)
     repeat' (first
      | (refine AS 89 ?_);refine AN (f:=121) Tryz.call121 AA ?_;refine ⟨_,(Cn u1 u2 _ hB2),?_⟩;rintro e w' ⟨rfl,rfl⟩;rw [HNb.out];refine Ae ?_;go_step|refine X0 ?_|refine JE 73 ?_|refine IB 85 ?_|refine YI 87 ?_|refine X5 90 ?_|refine X5 91 ?_|refine QT ?_|refine QR 82 ?_;clear hS;intro g82 w hS|refine TS 83 ?_;clear hS;intro ad83 c83 w hS|refine X9 ?_|refine AG ?_;go_step|fail)
     all_goals (try exact AW)
     repeat' (first
      | refine ae 99 ?_|(refine AS 133 ?_);refine Ag ?_;refine BQ (f:=120) rfl rfl Tryz.call120 (CR _ _) ?_;rintro e w ⟨rfl,hE⟩;replace hS:=hS.ext hE;clear hE;refine Ae ?_;go_step|go_big_skip|refine X0 ?_|refine IL ?_|refine Es 93 ?_ ?_<;>intro hB<;>(try exact AW)<;>go_step|refine Es 100 ?_ ?_<;>intro hB<;>(try exact AW)<;>go_step|refine JM 105 ?_ ?_<;>intro hB<;>(try exact AW)<;>go_step|refine EN 110 ?_ ?_<;>intro hB<;>(try exact AW)<;>go_step|refine JM 115 ?_ ?_<;>intro hB<;>(try exact AW)<;>go_step|refine IA 120 ?_ ?_<;>intro hB<;>(try exact AW)<;>go_step|refine Es 124 ?_ ?_<;>intro hB<;>(try exact AW)<;>go_step|refine IB 95 ?_|refine Ex 97 ?_|refine IB 103 ?_|refine Ex 108 ?_|refine Ex 113 ?_|refine IB 118 ?_|refine Ex 122 ?_|refine Ex 127 ?_|refine JE 129 ?_|refine X5 134 ?_|refine X5 135 ?_|refine X5 136 ?_|refine X9 ?_|refine Ew ?_;clear hS;intro w hS|refine AG ?_;go_step|fail)
     all_goals (try exact AW)
     all_goals
      refine AM (xs:=[_,_,_]) rfl (.cons (AC.arr hS rfl (AP (n:=64) rfl) AJ) (.cons (AC.tmp rfl) (.cons (AC.tmp rfl) (.nil)))) (by simp) rfl ?_
      exact Cr 4 HF2.out hS AV
    case neg=>
     have hr2:u0<0∨255<u0:=by omega
     clear hor2 hr
     repeat' (first
      | (refine AS 69 ?_);refine Ag ?_;refine B4 rfl (.iface Z.tid Z.ptr) rfl [.bool false] rfl Z.f #[Z.ptr, .bool false] (Z.inv false) (Z.call _ _ _ s false _ _ _ _ _ hS AJ HN2.out) ?_;clear hS;rintro e w ⟨rfl,hS⟩;refine Ae ?_;go_step|refine X0 ?_|refine X4 66 ?_|refine X5 70 ?_|refine X5 71 ?_|refine II 14 ?_;clear hS;intro g14 w hS|refine H9 ?_;clear hS;intro w hS|refine AG ?_;go_step|fail)
     all_goals (try exact AW)
     repeat' (first
      | (refine AS 89 ?_);refine AN (f:=121) Tryz.call121 AA ?_;refine ⟨_,(Cn u1 u2 _ hB2),?_⟩;rintro e w' ⟨rfl,rfl⟩;rw [HNb.out];refine Ae ?_;go_step|refine X0 ?_|refine JE 73 ?_|refine IB 85 ?_|refine YI 87 ?_|refine X5 90 ?_|refine X5 91 ?_|refine QT ?_|refine QR 82 ?_;clear hS;intro g82 w hS|refine TS 83 ?_;clear hS;intro ad83 c83 w hS|refine X9 ?_|refine AG ?_;go_step|fail)
     all_goals (try exact AW)
     repeat' (first
      | (refine AS 133 ?_);refine Ag ?_;refine BQ (f:=120) rfl rfl Tryz.call120 (CR _ _) ?_;rintro e w ⟨rfl,hE⟩;replace hS:=hS.ext hE;clear hE;refine Ae ?_;go_step|go_big_skip|refine X0 ?_|refine IL ?_|refine Es 93 ?_ ?_<;>intro hB<;>(try exact AW)<;>go_step|refine Es 100 ?_ ?_<;>intro hB<;>(try exact AW)<;>go_step|refine JM 105 ?_ ?_<;>intro hB<;>(try exact AW)<;>go_step|refine EN 110 ?_ ?_<;>intro hB<;>(try exact AW)<;>go_step|refine JM 115 ?_ ?_<;>intro hB<;>(try exact AW)<;>go_step|refine IB 95 ?_|refine Ex 97 ?_|(refine AS 99 ?_);(refine As AA (V.and rfl rfl) ?_;go_step)|refine IB 103 ?_|refine Ex 108 ?_|refine Ex 113 ?_|refine X5 134 ?_|refine X5 135 ?_|refine X5 136 ?_|refine X9 ?_|refine Ew ?_;clear hS;intro w hS|refine AG ?_;go_step|fail)
     all_goals (try exact AW)
     all_goals
      refine AM (xs:=[_,_,_]) rfl (.cons (AC.arr hS rfl (AP (n:=64) rfl) AJ) (.cons (AC.tmp rfl) (.cons (AC.tmp rfl) (.nil)))) (by simp) rfl ?_
      exact Cr 4 HF2.out hS AV
   case false=>
    rw [if_neg (by simp)] at hlo
    have hgood:OP u1 u2=true∧u1≤11∧0≤u0∧u0≤255∧u1=u0%16∧(u1≠0∨u0=0∨u0=240):=by
     by_cases hB2:OP u1 u2=true
     ·refine ⟨hB2,?_⟩
      have hno:¬(11<u1∨u0<0∨255<u0∨u1≠u0%16∨(u1=0∧u0≠0∧u0≠240)):=fun h=>by have:=hiff.2 (.inr h);cases this
      omega
     have:=hiff.2 (.inl (by simpa using hB2));cases this
    obtain ⟨hB2,g1,g2,g3,g4,g5⟩:=hgood
    have HAnd:=AD (TZ u0 ⟨g2,g3⟩)
    obtain ⟨nb1,nb2,nb3⟩:=JV u0 u1 u2 hB2
    have nb4:=nb3 g1
    obtain ⟨n2,hn2⟩:∃x,Cw (u0,u1,u2)=x:=⟨_,rfl⟩
    rw [hn2] at nb4 hlo
    have HNb:Hid (Df u1.toNat u2.toNat=n2):=AD hn2
    clear hiff hbd hn2 nb1 nb2 nb3
    by_cases hend:u0=0
    case pos=>
     rw [if_pos hend] at hlo
     have HLo2:=AD hlo
     have HAl2:Hid ((all++[(u0,u1,u2)]).length=m+1):=AD (by rw [List.length_append,HAl.out];rfl)
     clear hlo HAl
     obtain ⟨al2,hal2⟩:∃x,all++[(u0,u1,u2)]=x:=⟨_,rfl⟩
     rw [hal2] at HLo2 HAl2 HFl
     clear hal2
     obtain ⟨zf,hzf⟩:∃x,CX bl=x:=⟨_,rfl⟩
     have hzl:Ap zf 64:=by rw [←hzf];exact Dy bl
     have HZf:Ji (CX bl=zf):=⟨hzf⟩
     clear hzf
     repeat' (first
      | (refine AS 69 ?_);refine Ag ?_;refine B4 rfl (.iface Z.tid Z.ptr) rfl [.bool false] rfl Z.f #[Z.ptr, .bool false] (Z.inv false) (Z.call _ _ _ s false _ _ _ _ _ hS AJ HN2.out) ?_;clear hS;rintro e w ⟨rfl,hS⟩;refine Ae ?_;go_step|refine X0 ?_|refine X4 66 ?_|refine X5 70 ?_|refine X5 71 ?_|refine II 14 ?_;clear hS;intro g14 w hS|refine H9 ?_;clear hS;intro w hS|refine AG ?_;go_step|fail)
     all_goals (try exact AW)
     repeat' (first
      | (refine AS 89 ?_);refine AN (f:=121) Tryz.call121 AA ?_;refine ⟨_,(Cn u1 u2 _ hB2),?_⟩;rintro e w' ⟨rfl,rfl⟩;rw [HNb.out];refine Ae ?_;go_step|refine X0 ?_|refine JE 73 ?_|refine IB 85 ?_|refine YI 87 ?_|refine X5 90 ?_|refine X5 91 ?_|refine QT ?_|refine QR 82 ?_;clear hS;intro g82 w hS|refine TS 83 ?_;clear hS;intro ad83 c83 w hS|refine X9 ?_|refine AG ?_;go_step|fail)
     all_goals (try exact AW)
     repeat' (first
      | refine ae 99 ?_|go_big_skip|refine X1 ?_|refine IL ?_|refine Es 93 ?_ ?_<;>intro hB<;>(try exact AW)<;>go_step|refine Es 100 ?_ ?_<;>intro hB<;>(try exact AW)<;>go_step|refine JM 105 ?_ ?_<;>intro hB<;>(try exact AW)<;>go_step|refine EN 110 ?_ ?_<;>intro hB<;>(try exact AW)<;>go_step|refine JM 115 ?_ ?_<;>intro hB<;>(try exact AW)<;>go_step|refine IA 120 ?_ ?_<;>intro hB<;>(try exact AW)<;>go_step|refine Es 124 ?_ ?_<;>intro hB<;>(try exact AW)<;>go_step|refine IB 95 ?_|refine Ex 97 ?_|refine IB 103 ?_|refine Ex 108 ?_|refine Ex 113 ?_|refine IB 118 ?_|refine Ex 122 ?_|refine X9 ?_|refine AG ?_;go_step|fail)
     all_goals (try exact AW)
     repeat' (first
      | refine Ex 137 ?_|refine K1 139 ?_|refine X9 ?_|refine AG ?_;go_step|fail)
     all_goals (try exact AW)
     repeat' (first
      | (refine A3 67 ?_);refine A4 AA Tryz.call67 (MB _ bl hbl.out) ?_;rintro e w ⟨rfl,hE⟩;rw [HZf.out];replace hS:=hS.ext hE;clear hE;refine Ae ?_;go_step|refine X1 ?_|refine IK ?_|refine Ew ?_;clear hS;intro w hS|refine AG ?_;go_step|fail)
     all_goals (try exact AW)
     rw [←HFl.out] at hS
     have hzb:∀i,i<64→ -2047≤AK zf i∧AK zf i≤2047:=fun i hi=>by
      rw [←HZf.out];exact Kw bl HBl.out i hi
     have HZb:=AD hzb
     obtain ⟨T,hT⟩:∃T,BV before bl=T:=⟨_,rfl⟩
     have HTz:Ji (BV before (FH zf)=T):=⟨by rw [←HZf.out,Il bl hbl.out,hT]⟩
     obtain ⟨NT,hNT⟩:∃N,T.length=N:=⟨_,rfl⟩
     have hNT64:NT≤64:=by rw [←hNT,←hT];exact (Kg before bl hbl.out).2
     have HTl:=AD hNT
     have HRT:Ji (DM Z.next before s0=if T=al2 then (0,zf,al2,s2) else (4,BY,[],s2)):=⟨by
      rw [HF.out,←HLo2.out]
      dsimp only
      rw [if_neg (by simp),hT,HZf.out]⟩
     clear hzb hT hNT
     by_cases hEq:T=al2
     case pos=>
      have HD:=AD (show decide (EI T=EI al2)=true from decide_eq_true (by rw [hEq]))
      have HRF:Ji (DM Z.next before s0=(0,zf,al2,s2)):=⟨by rw [HRT.out,if_pos hEq]⟩
      clear hEq
      repeat' (first
       | (refine AS 168 ?_);refine AN (f:=124) Tryz.call124 AA ?_;refine ⟨_,(EG _ before zf hzl hb HZb.out),?_⟩;rintro e w ⟨a5,c5,rfl,hS2⟩;rw [HTz.out,HTl.out] at hS2;rw [HTz.out,HTl.out];replace hS:=hS.call1 hS2;clear hS2;refine Ae ?_;go_step|(refine AS 170 ?_);refine AN (f:=123) Tryz.call123 AA ?_;refine ⟨_,(ES _ a5 ad83 NT c5 (m+1) c83 (EI T) (EI al2) (hS.sl (a:=a5) AJ) (hS.sl (a:=ad83) AJ) (by omega) (by omega)),?_⟩;rintro e w ⟨he,hE⟩;rw [HD.out] at he;subst he;replace hS:=hS.ext hE;clear hE;refine Ae ?_;go_step|refine X0 ?_|(refine AS 171 ?_);(refine As AA (V.not rfl) ?_;go_step)|refine IK ?_|refine Ew ?_;clear hS;intro w hS|refine AG ?_;go_step|fail)
      all_goals (try exact AW)
      refine AM (xs:=[_,_,_]) rfl (.cons (AC.arr hS rfl (AP (n:=64) rfl) AJ) (.cons (AC.tmp rfl) (.cons (AC.tmp rfl) (.nil)))) (by simp) rfl ?_
      refine ⟨ad83,c83,?_,?_⟩
      ·rw [HRF.out];dsimp only;rw [HAl2.out];first|done|rfl
      rw [HRF.out];dsimp only;rw [HAl2.out];exact hS.sub AV
     case neg=>
      have HD:=AD (show decide (EI T=EI al2)=false from decide_eq_false (fun h=>hEq (MR h)))
      have HRF:DM Z.next before s0=(4,BY,[],s2):=by rw [HRT.out,if_neg hEq]
      have HRF2:Ji (DM Z.next before s0=(4,BY,[],s2)):=⟨HRF⟩
      clear hEq HRF
      repeat' (first
       | (refine AS 168 ?_);refine AN (f:=124) Tryz.call124 AA ?_;refine ⟨_,(EG _ before zf hzl hb HZb.out),?_⟩;rintro e w ⟨a5,c5,rfl,hS2⟩;rw [HTz.out,HTl.out] at hS2;rw [HTz.out,HTl.out];replace hS:=hS.call1 hS2;clear hS2;refine Ae ?_;go_step|(refine AS 170 ?_);refine AN (f:=123) Tryz.call123 AA ?_;refine ⟨_,(ES _ a5 ad83 NT c5 (m+1) c83 (EI T) (EI al2) (hS.sl (a:=a5) AJ) (hS.sl (a:=ad83) AJ) (by omega) (by omega)),?_⟩;rintro e w ⟨he,hE⟩;rw [HD.out] at he;subst he;replace hS:=hS.ext hE;clear hE;refine Ae ?_;go_step|(refine AS 173 ?_);refine Ag ?_;refine BQ (f:=120) rfl rfl Tryz.call120 (CR _ _) ?_;rintro e w ⟨rfl,hE⟩;replace hS:=hS.ext hE;clear hE;refine Ae ?_;go_step|refine X0 ?_|(refine AS 171 ?_);(refine As AA (V.not rfl) ?_;go_step)|refine X5 174 ?_|refine X5 175 ?_|refine X5 176 ?_|refine Ew ?_;clear hS;intro w hS|refine AG ?_;go_step|fail)
      all_goals (try exact AW)
      refine AM (xs:=[_,_,_]) rfl (.cons (AC.arr hS rfl (AP (n:=64) rfl) AJ) (.cons (AC.tmp rfl) (.cons (AC.tmp rfl) (.nil)))) (by simp) rfl ?_
      exact Cr 4 HRF2.out hS AV
    case neg=>
     rw [if_neg hend] at hlo
     by_cases hlong:u0=240
     case pos=>
      rw [if_pos hlong] at hlo
      by_cases hov:64<at_+16
      case pos=>
       rw [if_pos hov] at hlo
       have HF2:Hid (DM Z.next before s0=(4,BY,[],s2)):=AD (by rw [HF.out,←hlo];exact if_pos (show (4:Int)≠0 by decide))
       clear hlo
       repeat' (first
        | (refine AS 69 ?_);refine Ag ?_;refine B4 rfl (.iface Z.tid Z.ptr) rfl [.bool false] rfl Z.f #[Z.ptr, .bool false] (Z.inv false) (Z.call _ _ _ s false _ _ _ _ _ hS AJ HN2.out) ?_;clear hS;rintro e w ⟨rfl,hS⟩;refine Ae ?_;go_step|refine X0 ?_|refine X4 66 ?_|refine X5 70 ?_|refine X5 71 ?_|refine II 14 ?_;clear hS;intro g14 w hS|refine H9 ?_;clear hS;intro w hS|refine AG ?_;go_step|fail)
       all_goals (try exact AW)
       repeat' (first
        | (refine AS 89 ?_);refine AN (f:=121) Tryz.call121 AA ?_;refine ⟨_,(Cn u1 u2 _ hB2),?_⟩;rintro e w' ⟨rfl,rfl⟩;rw [HNb.out];refine Ae ?_;go_step|refine X0 ?_|refine JE 73 ?_|refine IB 85 ?_|refine YI 87 ?_|refine X5 90 ?_|refine X5 91 ?_|refine QT ?_|refine QR 82 ?_;clear hS;intro g82 w hS|refine TS 83 ?_;clear hS;intro ad83 c83 w hS|refine X9 ?_|refine AG ?_;go_step|fail)
       all_goals (try exact AW)
       repeat' (first
        | refine ae 99 ?_|refine X1 ?_|refine IL ?_|refine Es 93 ?_ ?_<;>intro hB<;>(try exact AW)<;>go_step|refine Es 100 ?_ ?_<;>intro hB<;>(try exact AW)<;>go_step|refine JM 105 ?_ ?_<;>intro hB<;>(try exact AW)<;>go_step|refine EN 110 ?_ ?_<;>intro hB<;>(try exact AW)<;>go_step|refine JM 115 ?_ ?_<;>intro hB<;>(try exact AW)<;>go_step|refine IA 120 ?_ ?_<;>intro hB<;>(try exact AW)<;>go_step|refine Es 124 ?_ ?_<;>intro hB<;>(try exact AW)<;>go_step|refine IB 95 ?_|refine Ex 97 ?_|refine IB 103 ?_|refine Ex 108 ?_|refine Ex 113 ?_|refine IB 118 ?_|refine Ex 122 ?_|refine Ex 127 ?_|refine JE 129 ?_|refine X9 ?_|refine AG ?_;go_step|fail)
       all_goals (try exact AW)
       repeat' (first
        | (refine AS 160 ?_);refine Ag ?_;refine BQ (f:=120) rfl rfl Tryz.call120 (CR _ _) ?_;rintro e w ⟨rfl,hE⟩;replace hS:=hS.ext hE;clear hE;refine Ae ?_;go_step|refine X0 ?_|refine Ex 137 ?_|refine K1 139 ?_|refine Ex 140 ?_|refine K1 142 ?_|refine TW 144 ?_|refine ME 158 ?_|refine X5 161 ?_|refine X5 162 ?_|refine X5 163 ?_|refine X9 ?_|refine Ew ?_;clear hS;intro w hS|refine AG ?_;go_step|fail)
       all_goals (try exact AW)
       all_goals
        refine AM (xs:=[_,_,_]) rfl (.cons (AC.arr hS rfl (AP (n:=64) rfl) AJ) (.cons (AC.tmp rfl) (.cons (AC.tmp rfl) (.nil)))) (by simp) rfl ?_
        exact Cr 4 HF2.out hS AV
      case neg=>
       rw [if_neg hov] at hlo
       have HLo2:=AD hlo
       clear hlo
       repeat' (first
        | (refine AS 69 ?_);refine Ag ?_;refine B4 rfl (.iface Z.tid Z.ptr) rfl [.bool false] rfl Z.f #[Z.ptr, .bool false] (Z.inv false) (Z.call _ _ _ s false _ _ _ _ _ hS AJ HN2.out) ?_;clear hS;rintro e w ⟨rfl,hS⟩;refine Ae ?_;go_step|refine X0 ?_|refine X4 66 ?_|refine X5 70 ?_|refine X5 71 ?_|refine II 14 ?_;clear hS;intro g14 w hS|refine H9 ?_;clear hS;intro w hS|refine AG ?_;go_step|fail)
       all_goals (try exact AW)
       repeat' (first
        | (refine AS 89 ?_);refine AN (f:=121) Tryz.call121 AA ?_;refine ⟨_,(Cn u1 u2 _ hB2),?_⟩;rintro e w' ⟨rfl,rfl⟩;rw [HNb.out];refine Ae ?_;go_step|refine X0 ?_|refine JE 73 ?_|refine IB 85 ?_|refine YI 87 ?_|refine X5 90 ?_|refine X5 91 ?_|refine QT ?_|refine QR 82 ?_;clear hS;intro g82 w hS|refine TS 83 ?_;clear hS;intro ad83 c83 w hS|refine X9 ?_|refine AG ?_;go_step|fail)
       all_goals (try exact AW)
       repeat' (first
        | refine ae 99 ?_|refine X1 ?_|refine IL ?_|refine Es 93 ?_ ?_<;>intro hB<;>(try exact AW)<;>go_step|refine Es 100 ?_ ?_<;>intro hB<;>(try exact AW)<;>go_step|refine JM 105 ?_ ?_<;>intro hB<;>(try exact AW)<;>go_step|refine EN 110 ?_ ?_<;>intro hB<;>(try exact AW)<;>go_step|refine JM 115 ?_ ?_<;>intro hB<;>(try exact AW)<;>go_step|refine IA 120 ?_ ?_<;>intro hB<;>(try exact AW)<;>go_step|refine Es 124 ?_ ?_<;>intro hB<;>(try exact AW)<;>go_step|refine IB 95 ?_|refine Ex 97 ?_|refine IB 103 ?_|refine Ex 108 ?_|refine Ex 113 ?_|refine IB 118 ?_|refine Ex 122 ?_|refine Ex 127 ?_|refine JE 129 ?_|refine X9 ?_|refine AG ?_;go_step|fail)
       all_goals (try exact AW)
       repeat' (first
        | refine X0 ?_|refine Ex 137 ?_|refine K1 139 ?_|refine Ex 140 ?_|refine K1 142 ?_|refine TW 144 ?_|refine ME 158 ?_|refine X9 ?_|refine AG ?_;go_step|fail)
       all_goals (try exact AW)
       go_roundg gk'
       case measure=>omega
       case rel=>exact ⟨at_+16,m+1,bl,all++[(u0,u1,u2)],ad83,c83,s2,by omega,by omega,by omega,by omega,by go_num,rfl,AD (by rw [List.length_append,HAl.out];rfl),hbl,HBl,HLo2,(by rw [HFl.out];exact hS.sub AV)⟩
     case neg=>
      rw [if_neg hlong] at hlo
      obtain ⟨r,hr⟩:∃r:Nat,u0/16=(r:Int):=⟨(u0/16).toNat,by omega⟩
      have hr2:u0.toNat/16=r:=by omega
      have hr15:r≤15:=by omega
      rw [hr2] at hlo
      have HR4:Hid (u0/2^4=(r:Int)):=AD (by rw [show (2:Int)^4=16 from rfl];exact hr)
      clear hr hr2
      by_cases hov:64≤at_+r
      case pos=>
       rw [if_pos hov] at hlo
       have HF2:Hid (DM Z.next before s0=(4,BY,[],s2)):=AD (by rw [HF.out,←hlo];exact if_pos (show (4:Int)≠0 by decide))
       clear hlo
       repeat' (first
        | (refine AS 69 ?_);refine Ag ?_;refine B4 rfl (.iface Z.tid Z.ptr) rfl [.bool false] rfl Z.f #[Z.ptr, .bool false] (Z.inv false) (Z.call _ _ _ s false _ _ _ _ _ hS AJ HN2.out) ?_;clear hS;rintro e w ⟨rfl,hS⟩;refine Ae ?_;go_step|refine X0 ?_|refine X4 66 ?_|refine X5 70 ?_|refine X5 71 ?_|refine II 14 ?_;clear hS;intro g14 w hS|refine H9 ?_;clear hS;intro w hS|refine AG ?_;go_step|fail)
       all_goals (try exact AW)
       repeat' (first
        | (refine AS 89 ?_);refine AN (f:=121) Tryz.call121 AA ?_;refine ⟨_,(Cn u1 u2 _ hB2),?_⟩;rintro e w' ⟨rfl,rfl⟩;rw [HNb.out];refine Ae ?_;go_step|refine X0 ?_|refine JE 73 ?_|refine IB 85 ?_|refine YI 87 ?_|refine X5 90 ?_|refine X5 91 ?_|refine QT ?_|refine QR 82 ?_;clear hS;intro g82 w hS|refine TS 83 ?_;clear hS;intro ad83 c83 w hS|refine X9 ?_|refine AG ?_;go_step|fail)
       all_goals (try exact AW)
       repeat' (first
        | refine ae 99 ?_|go_big_skip|refine X1 ?_|refine Gz ?_|refine Es 93 ?_ ?_<;>intro hB<;>(try exact AW)<;>go_step|refine Es 100 ?_ ?_<;>intro hB<;>(try exact AW)<;>go_step|refine JM 105 ?_ ?_<;>intro hB<;>(try exact AW)<;>go_step|refine EN 110 ?_ ?_<;>intro hB<;>(try exact AW)<;>go_step|refine JM 115 ?_ ?_<;>intro hB<;>(try exact AW)<;>go_step|refine IA 120 ?_ ?_<;>intro hB<;>(try exact AW)<;>go_step|refine IB 95 ?_|refine Ex 97 ?_|refine IB 103 ?_|refine Ex 108 ?_|refine Ex 113 ?_|refine IB 118 ?_|refine X9 ?_|refine AG ?_;go_step|fail)
       all_goals (try exact AW)
       repeat' (first
        | (refine AS 148 ?_);(refine Ak (.int _ (((r:Nat):Int))) (V.as (V.shr rfl rfl BI (by omega) rfl) (by exact HR4.out)) (by kernel_rfl) ?_;go_step)|(refine AS 160 ?_);refine Ag ?_;refine BQ (f:=120) rfl rfl Tryz.call120 (CR _ _) ?_;rintro e w ⟨rfl,hE⟩;replace hS:=hS.ext hE;clear hE;refine Ae ?_;go_step|refine X0 ?_|refine Ex 137 ?_|refine K1 139 ?_|refine Ex 140 ?_|refine K1 142 ?_|refine Ex 146 ?_|refine TW 149 ?_|refine X4 151 ?_|refine TW 156 ?_|refine ME 158 ?_|refine X5 161 ?_|refine X5 162 ?_|refine X5 163 ?_|refine X9 ?_|refine Ew ?_;clear hS;intro w hS|refine AG ?_;go_step|fail)
       all_goals (try exact AW)
       all_goals
        refine AM (xs:=[_,_,_]) rfl (.cons (AC.arr hS rfl (AP (n:=64) rfl) AJ) (.cons (AC.tmp rfl) (.cons (AC.tmp rfl) (.nil)))) (by simp) rfl ?_
        exact Cr 4 HF2.out hS AV
      case neg=>
       rw [if_neg hov] at hlo
       have HLo2:=AD hlo
       have HBl2:Hid (∀i,i<64→ -2047≤AK (bl.set (at_+r) n2) i∧AK (bl.set (at_+r) n2) i≤2047):=AD fun i hi=>by
        rw [CL _ _ _ _ (by rw [hbl.out];omega)]
        split
        ·omega
        exact HBl.out i hi
       have hbl2:Ap (bl.set (at_+r) n2) 64:=Ap.set hbl
       clear hlo
       repeat' (first
        | (refine AS 69 ?_);refine Ag ?_;refine B4 rfl (.iface Z.tid Z.ptr) rfl [.bool false] rfl Z.f #[Z.ptr, .bool false] (Z.inv false) (Z.call _ _ _ s false _ _ _ _ _ hS AJ HN2.out) ?_;clear hS;rintro e w ⟨rfl,hS⟩;refine Ae ?_;go_step|refine X0 ?_|refine X4 66 ?_|refine X5 70 ?_|refine X5 71 ?_|refine II 14 ?_;clear hS;intro g14 w hS|refine H9 ?_;clear hS;intro w hS|refine AG ?_;go_step|fail)
       all_goals (try exact AW)
       repeat' (first
        | (refine AS 89 ?_);refine AN (f:=121) Tryz.call121 AA ?_;refine ⟨_,(Cn u1 u2 _ hB2),?_⟩;rintro e w' ⟨rfl,rfl⟩;rw [HNb.out];refine Ae ?_;go_step|refine X0 ?_|refine JE 73 ?_|refine IB 85 ?_|refine YI 87 ?_|refine X5 90 ?_|refine X5 91 ?_|refine QT ?_|refine QR 82 ?_;clear hS;intro g82 w hS|refine TS 83 ?_;clear hS;intro ad83 c83 w hS|refine X9 ?_|refine AG ?_;go_step|fail)
       all_goals (try exact AW)
       repeat' (first
        | refine ae 99 ?_|go_big_skip|refine X1 ?_|refine Gz ?_|refine Es 93 ?_ ?_<;>intro hB<;>(try exact AW)<;>go_step|refine Es 100 ?_ ?_<;>intro hB<;>(try exact AW)<;>go_step|refine JM 105 ?_ ?_<;>intro hB<;>(try exact AW)<;>go_step|refine EN 110 ?_ ?_<;>intro hB<;>(try exact AW)<;>go_step|refine JM 115 ?_ ?_<;>intro hB<;>(try exact AW)<;>go_step|refine IA 120 ?_ ?_<;>intro hB<;>(try exact AW)<;>go_step|refine IB 95 ?_|refine Ex 97 ?_|refine IB 103 ?_|refine Ex 108 ?_|refine Ex 113 ?_|refine IB 118 ?_|refine X9 ?_|refine AG ?_;go_step|fail)
       all_goals (try exact AW)
       repeat' (first
        | (refine AS 148 ?_);(refine Ak (.int _ (((r:Nat):Int))) (V.as (V.shr rfl rfl BI (by omega) rfl) (by exact HR4.out)) (by kernel_rfl) ?_;go_step)|refine X0 ?_|refine Ex 137 ?_|refine K1 139 ?_|refine Ex 140 ?_|refine K1 142 ?_|refine Ex 146 ?_|refine TW 149 ?_|refine X4 151 ?_|refine WT 154 ?_|refine TW 156 ?_|refine ME 158 ?_|refine X9 ?_|refine V9 ?_;clear hS;intro w hS|refine AG ?_;go_step|fail)
       all_goals (try exact AW)
       go_roundg gk'
       case measure=>omega
       case rel=>exact ⟨at_+r+1,m+1,bl.set (at_+r) n2,all++[(u0,u1,u2)],ad83,c83,s2,by omega,by omega,by omega,by omega,by go_num,rfl,AD (by rw [List.length_append,HAl.out];rfl),hbl2,HBl2,HLo2,(by rw [HFl.out];exact hS.sub AV)⟩
  have hlo:=HLo.out
  have hR0:R=(0,bl,all,s):=by
   cases gk with
   | zero=>rw [←hlo,BN]
   | succ g=>rw [←hlo,BN,if_pos (by omega)]
  have HLo2:Hid ((0,bl,all,s)=R):=AD hR0.symm
  have HAl2:Hid (all.length=m):=HAl
  clear hlo hR0 HLo
  obtain ⟨zf,hzf⟩:∃x,CX bl=x:=⟨_,rfl⟩
  have hzl:Ap zf 64:=by rw [←hzf];exact Dy bl
  have HZf:Ji (CX bl=zf):=⟨hzf⟩
  clear hzf
  repeat' (first
   | refine X1 ?_|refine X4 66 ?_|refine AG ?_;go_step|fail)
  all_goals (try exact AW)
  repeat' (first
   | (refine A3 67 ?_);refine A4 AA Tryz.call67 (MB _ bl hbl.out) ?_;rintro e w ⟨rfl,hE⟩;rw [HZf.out];replace hS:=hS.ext hE;clear hE;refine Ae ?_;go_step|refine X1 ?_|refine IK ?_|refine Ew ?_;clear hS;intro w hS|refine AG ?_;go_step|fail)
  have hzb:∀i,i<64→ -2047≤AK zf i∧AK zf i≤2047:=fun i hi=>by
   rw [←HZf.out];exact Kw bl HBl.out i hi
  have HZb:=AD hzb
  obtain ⟨T,hT⟩:∃T,BV before bl=T:=⟨_,rfl⟩
  have HTz:Ji (BV before (FH zf)=T):=⟨by rw [←HZf.out,Il bl hbl.out,hT]⟩
  obtain ⟨NT,hNT⟩:∃N,T.length=N:=⟨_,rfl⟩
  have hNT64:NT≤64:=by rw [←hNT,←hT];exact (Kg before bl hbl.out).2
  have HTl:=AD hNT
  have HRT:Ji (DM Z.next before s0=if T=all then (0,zf,all,s) else (4,BY,[],s)):=⟨by
   rw [HF.out,←HLo2.out]
   dsimp only
   rw [if_neg (by simp),hT,HZf.out]⟩
  clear hzb hT hNT
  by_cases hEq:T=all
  case pos=>
   have HD:=AD (show decide (EI T=EI all)=true from decide_eq_true (by rw [hEq]))
   have HRF:Ji (DM Z.next before s0=(0,zf,all,s)):=⟨by rw [HRT.out,if_pos hEq]⟩
   clear hEq
   repeat' (first
    | (refine AS 168 ?_);refine AN (f:=124) Tryz.call124 AA ?_;refine ⟨_,(EG _ before zf hzl hb HZb.out),?_⟩;rintro e w ⟨a5,c5,rfl,hS2⟩;rw [HTz.out,HTl.out] at hS2;rw [HTz.out,HTl.out];replace hS:=hS.call1 hS2;clear hS2;refine Ae ?_;go_step|(refine AS 170 ?_);refine AN (f:=123) Tryz.call123 AA ?_;refine ⟨_,(ES _ a5 a' NT c5 (m) c' (EI T) (EI all) (hS.sl (a:=a5) AJ) (hS.sl (a:=a') AJ) (by omega) (by omega)),?_⟩;rintro e w ⟨he,hE⟩;rw [HD.out] at he;subst he;replace hS:=hS.ext hE;clear hE;refine Ae ?_;go_step|refine X0 ?_|(refine AS 171 ?_);(refine As AA (V.not rfl) ?_;go_step)|refine IK ?_|refine Ew ?_;clear hS;intro w hS|refine AG ?_;go_step|fail)
   all_goals (try exact AW)
   refine AM (xs:=[_,_,_]) rfl (.cons (AC.arr hS rfl (AP (n:=64) rfl) AJ) (.cons (AC.tmp rfl) (.cons (AC.tmp rfl) (.nil)))) (by simp) rfl ?_
   refine ⟨a',c',?_,?_⟩
   ·rw [HRF.out];dsimp only;rw [HAl2.out];first|done|rfl
   rw [HRF.out];dsimp only;rw [HAl2.out];exact hS.sub AV
  case neg=>
   have HD:=AD (show decide (EI T=EI all)=false from decide_eq_false (fun h=>hEq (MR h)))
   have HRF:DM Z.next before s0=(4,BY,[],s):=by rw [HRT.out,if_neg hEq]
   have HRF2:Ji (DM Z.next before s0=(4,BY,[],s)):=⟨HRF⟩
   clear hEq HRF
   repeat' (first
    | (refine AS 168 ?_);refine AN (f:=124) Tryz.call124 AA ?_;refine ⟨_,(EG _ before zf hzl hb HZb.out),?_⟩;rintro e w ⟨a5,c5,rfl,hS2⟩;rw [HTz.out,HTl.out] at hS2;rw [HTz.out,HTl.out];replace hS:=hS.call1 hS2;clear hS2;refine Ae ?_;go_step|(refine AS 170 ?_);refine AN (f:=123) Tryz.call123 AA ?_;refine ⟨_,(ES _ a5 a' NT c5 (m) c' (EI T) (EI all) (hS.sl (a:=a5) AJ) (hS.sl (a:=a') AJ) (by omega) (by omega)),?_⟩;rintro e w ⟨he,hE⟩;rw [HD.out] at he;subst he;replace hS:=hS.ext hE;clear hE;refine Ae ?_;go_step|(refine AS 173 ?_);refine Ag ?_;refine BQ (f:=120) rfl rfl Tryz.call120 (CR _ _) ?_;rintro e w ⟨rfl,hE⟩;replace hS:=hS.ext hE;clear hE;refine Ae ?_;go_step|refine X0 ?_|(refine AS 171 ?_);(refine As AA (V.not rfl) ?_;go_step)|refine X5 174 ?_|refine X5 175 ?_|refine X5 176 ?_|refine Ew ?_;clear hS;intro w hS|refine AG ?_;go_step|fail)
   all_goals (try exact AW)
   refine AM (xs:=[_,_,_]) rfl (.cons (AC.arr hS rfl (AP (n:=64) rfl) AJ) (.cons (AC.tmp rfl) (.cons (AC.tmp rfl) (.nil)))) (by simp) rfl ?_
   exact Cr 4 HRF2.out hS AV
end Go.Proofs.YtohacgmhmbijmaaGreatDoor
