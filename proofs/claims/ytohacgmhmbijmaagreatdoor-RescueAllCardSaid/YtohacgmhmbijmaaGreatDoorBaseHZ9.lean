/- What the laws RescueAll RescueHurt need, part 9. -/
import Derived.Test.YtohacgmhmbijmaaGreatDoorBaseHZ2
import Derived.Test.YtohacgmhmbijmaaGreatDoorBaseHZ3
import Derived.Test.YtohacgmhmbijmaaGreatDoorBaseHZ8
namespace Go.Proofs.YtohacgmhmbijmaaGreatDoor
attribute [local irreducible] Region.wanted
open Go.RowKit
set_option linter.unusedVariables false
set_option maxRecDepth 100000
set_option maxHeartbeats 8000000
theorem Vy{W:World}{σ:Type}(Z:dy W σ)(w0:World)(rs rs':List At)(s0:σ)(before:Int)(hb: -2047≤before∧before≤2047)(hS:St W w0 rs)(hp:AT (Z.res s0) rs rs'):
 Calls Tryz.prog 88 #[.int .i64 before, .iface Z.tid Z.ptr] w0 (I1 Z before s0 rs'):=by
 by_cases hgood:(Z.next s0 true).2.1=0∧Bl before (Z.next s0 true).1=true
 case neg=>exact Vz Z w0 rs rs' s0 before hb hS hp hgood
 replace hS:=hS.pull hp
 have hZ0:Al BY 64:=List.length_replicate
 clear hp
 obtain ⟨⟨⟨t0,t1,t2⟩,er,s1⟩,hn⟩:∃x,Z.next s0 true=x:=⟨_,rfl⟩
 rw [hn] at hgood
 obtain ⟨he,hfst⟩:=hgood
 dsimp only at he hfst
 subst he
 have hf2:=hfst
 unfold Bl at hf2
 simp only [Bool.and_eq_true,decide_eq_true_eq] at hf2
 obtain ⟨⟨⟨q1,q2⟩,q3⟩,q4⟩:=hf2
 subst q3
 have hB:Pa t0 t2=true:=by unfold Pa;rw [decide_eq_true q1,decide_eq_true q2];rfl
 obtain ⟨n,hnum⟩:∃n,DA (t0,t0,t2)=n:=⟨_,rfl⟩
 have hnb:=KG t0 t0 t2 hB
 rw [hnum] at hnb
 obtain ⟨hn1,hn2,_⟩:=hnb
 have HNum:Hid (D5 t0.toNat t2.toNat=n):=AD hnum
 rw [hnum] at q4
 have hco: -2047≤before+n∧before+n≤2047:=q4
 have HQ:Hid (Xu (before+n)=true):=AD ((Gm _).2 hco)
 have HFirst:Hid (Bl before (t0,t0,t2)=true):=AD hfst
 have HN:=AD hn
 clear q1 q2 q4 hfst
 obtain ⟨R,hR⟩:∃R,BI Z.next 64 1 (B6 (before+n)) [(t0,t0,t2)] s1=R:=⟨_,rfl⟩
 have HF:Hid (Df Z.next before s0=if R.1≠0 then (R.1,BY,[],R.2.2.2) else if BO before R.2.1=R.2.2.1 then (0,Cc R.2.1,R.2.2.1,R.2.2.2) else (4,BY,[],R.2.2.2)):=AD (by
  unfold Df;rw [hn];dsimp only
  rw [if_neg (by simp),if_neg (by rw [HFirst.out];simp),hnum,hR];rfl)
 have HR:=AD hR
 have hfl:Al (B6 (before+n)) 64:=Al.set Al.rep
 have HFb:Hid (∀i,i<64→ -2047≤AJ (B6 (before+n)) i∧AJ (B6 (before+n)) i≤2047):=AD fun i hi=>by
  unfold B6
  rw [CO _ _ _ _ (by simp)]
  split
  ·exact hco
  rw [EN];omega
 clear hn hnum hR hco
 go_enter Tryz.func88,Tryz.ntmps88
 repeat' (first
  | (refine AR 19 ?_);refine Ae ?_;refine B5 rfl (.iface Z.tid Z.ptr) rfl [.bool true] rfl Z.f #[Z.ptr, .bool true] (Z.inv true) (Z.call _ _ _ s0 true _ _ _ _ _ hS AL HN.out) ?_;clear hS;rintro e w ⟨rfl,hS⟩;refine Ac ?_;go_step|(refine AR 37 ?_);refine AM (f:=121) Tryz.call121 AA ?_;refine ⟨_,(Cs t0 t2 _ hB),?_⟩;rintro e w' ⟨rfl,rfl⟩;rw [HNum.out];refine Ac ?_;go_step|(refine Aq 122 ?_);refine As AA Tryz.call122 (Dk (before+n) _) ?_;rintro e w' ⟨rfl,rfl⟩;rw [HQ.out];refine Ac ?_;go_step|refine eD 31 ?_;clear hS;intro g31 w hS|refine X0 ?_|refine IE ?_|refine FW 41 ?_ ?_<;>intro hB<;>(try exact AQ)<;>go_step|refine FW 47 ?_ ?_<;>intro hB<;>(try exact AQ)<;>go_step|refine X6 ?_|refine X5 ?_|refine Rr ?_|refine cA ?_|refine VI ?_|refine X7 ?_|refine Rt ?_|(refine AR 64 ?_);(refine An AA (V.build (vs:=[(0,_)]) rfl (cQ _)) ?_;go_step)|refine KY 4 ?_;clear hS;intro g4 w hS|refine I5 8 ?_;clear hS;intro g8 w hS|refine Iw ?_;clear hS;intro w hS|refine Fu ?_;clear hS;intro w hS|refine Rs ?_|refine X9 ?_|refine KY 12 ?_;clear hS;intro g12 w hS|refine AF ?_;go_step|fail)
 all_goals (try exact AQ)
 replace hS:=hS.sub (xs:=arr g12 64 ((List.replicate 64 0).set 0 (before+n))::own 155 3 (some ⟨g31,0,none⟩) 1 1 [.int .i64 t0, .int .i64 t0, .int .i64 t2]::arr g4 64 (List.replicate 64 0)::Z.res s1::rs') AV
 go_loopg [10,13] 64 (fun gk ov av w=>∃(at_ m:Nat) (bl:List Int) (all:List CH) (a':Option Addr) (c':Nat) (s:σ),65≤gk+at_∧1≤at_∧at_≤64∧m≤at_∧av= .int .i64 at_∧ov= .slice a' m c'∧Hid (all.length=m)∧Al bl 64∧Hid (∀i,i<64→ -2047≤AJ bl i∧AJ bl i≤2047)∧Hid (BI Z.next gk at_ bl all s=R)∧
  St W w (arr g12 64 bl::own 155 3 a' m c' ((Eo all).map (Value.int .i64))::arr g4 64 (List.replicate 64 0)::Z.res s::rs'))
 case atStart=>exact ⟨1,1,B6 (before+n),[(t0,t0,t2)],_,_,s1,by omega,by omega,by omega,by omega,rfl,rfl,AD rfl,hfl,HFb,HR,hS⟩
 case round=>
  clear hS HFb hfl
  obtain ⟨at_,m,bl,all,a',c',s,hga,h1a,ha64,hma,rfl,rfl,HAl,hbl,HBl,HLo,hS⟩:=hrel
  by_cases hlt:at_<64
  ·obtain ⟨gk',rfl⟩:∃x,gk=x+1:=⟨gk-1,by omega⟩
   obtain ⟨⟨⟨u0,u1,u2⟩,er,s2⟩,hn⟩:∃x,Z.next s false=x:=⟨_,rfl⟩
   have hlo:=HLo.out
   rw [BI,if_neg (by omega),hn] at hlo
   dsimp only at hlo
   have HN2:=AD hn
   clear hn HLo
   by_cases he:er=0
   case neg=>
    rw [if_pos he] at hlo
    have HF2:Hid (Df Z.next before s0=(er,BY,[],s2)):=AD (by rw [HF.out,←hlo];exact if_pos he)
    clear hlo
    repeat' (first
     | (refine AR 69 ?_);refine Ae ?_;refine B5 rfl (.iface Z.tid Z.ptr) rfl [.bool false] rfl Z.f #[Z.ptr, .bool false] (Z.inv false) (Z.call _ _ _ s false _ _ _ _ _ hS AL HN2.out) ?_;clear hS;rintro e w ⟨rfl,hS⟩;refine Ac ?_;go_step|refine X0 ?_|refine X4 66 ?_|refine X3 70 ?_|refine X3 71 ?_|refine I5 14 ?_;clear hS;intro g14 w hS|refine Iw ?_;clear hS;intro w hS|refine AF ?_;go_step|fail)
    all_goals (try exact AQ)
    repeat' (first
     | (refine AR 76 ?_);refine Ae ?_;refine BK (f:=120) rfl rfl Tryz.call120 (CX _ _) ?_;rintro e w ⟨rfl,hE⟩;replace hS:=hS.ext hE;clear hE;refine Ac ?_;go_step|refine X0 ?_|refine E8 73 ?_|refine X3 77 ?_|refine X3 78 ?_|refine X3 79 ?_|refine Fu ?_;clear hS;intro w hS|refine AF ?_;go_step|fail)
    refine AK (xs:=[_,_,_]) rfl (.cons (AC.arr hS rfl (AO (n:=64) rfl) AL) (.cons (AC.tmp rfl) (.cons (AC.tmp rfl) (.nil)))) (by simp) rfl ?_
    exact C4 er HF2.out hS AV
   subst he
   rw [if_neg (by simp)] at hlo
   obtain ⟨bd,hbd⟩:∃b,L5 (u0,u1,u2)=b:=⟨_,rfl⟩
   have hiff:=Rx u0 u1 u2
   rw [hbd] at hiff hlo
   have HFl:=AD (Ks all (u0,u1,u2))
   dsimp only at HFl
   cases bd
   case true=>
    rw [if_pos rfl] at hlo
    have HF2:Hid (Df Z.next before s0=(4,BY,[],s2)):=AD (by rw [HF.out,←hlo];exact if_pos (show (4:Int)≠0 by decide))
    have hor:=hiff.1 rfl
    clear hlo hiff hbd
    by_cases hB2:Pa u1 u2=true
    case neg=>
     have hB3:Pa u1 u2=false:=by simpa using hB2
     clear hor hB2
     repeat' (first
      | (refine AR 69 ?_);refine Ae ?_;refine B5 rfl (.iface Z.tid Z.ptr) rfl [.bool false] rfl Z.f #[Z.ptr, .bool false] (Z.inv false) (Z.call _ _ _ s false _ _ _ _ _ hS AL HN2.out) ?_;clear hS;rintro e w ⟨rfl,hS⟩;refine Ac ?_;go_step|refine X0 ?_|refine X4 66 ?_|refine X3 70 ?_|refine X3 71 ?_|refine I5 14 ?_;clear hS;intro g14 w hS|refine Iw ?_;clear hS;intro w hS|refine AF ?_;go_step|fail)
     all_goals (try exact AQ)
     repeat' (first
      | (refine AR 89 ?_);refine AM (f:=121) Tryz.call121 AA ?_;refine ⟨_,(Rv u1 u2 _ hB3),?_⟩;rintro e w' ⟨rfl,rfl⟩;refine Ac ?_;go_step|refine X0 ?_|refine E8 73 ?_|refine Ix 85 ?_|refine aJ 87 ?_|refine X3 90 ?_|refine X3 91 ?_|refine Rs ?_|refine Rq 82 ?_;clear hS;intro g82 w hS|refine VO 83 ?_;clear hS;intro ad83 c83 w hS|refine X9 ?_|refine AF ?_;go_step|fail)
     all_goals (try exact AQ)
     repeat' (first
      | (refine AR 133 ?_);refine Ae ?_;refine BK (f:=120) rfl rfl Tryz.call120 (CX _ _) ?_;rintro e w ⟨rfl,hE⟩;replace hS:=hS.ext hE;clear hE;refine Ac ?_;go_step|go_big_skip|refine X0 ?_|refine F0 ?_|refine FW 93 ?_ ?_<;>intro hB<;>(try exact AQ)<;>go_step|refine X3 134 ?_|refine X3 135 ?_|refine X3 136 ?_|refine Fu ?_;clear hS;intro w hS|refine AF ?_;go_step|fail)
     all_goals (try exact AQ)
     all_goals
      refine AK (xs:=[_,_,_]) rfl (.cons (AC.arr hS rfl (AO (n:=64) rfl) AL) (.cons (AC.tmp rfl) (.cons (AC.tmp rfl) (.nil)))) (by simp) rfl ?_
      exact C4 4 HF2.out hS AV
    have hor2:11<u1∨u0<0∨255<u0∨u1≠u0%16∨(u1=0∧u0≠0∧u0≠240):=by
     rcases hor with h|h
     ·rw [hB2] at h;cases h
     exact h
    clear hor
    obtain ⟨n2,hn2⟩:∃x,D5 u1.toNat u2.toNat=x:=⟨_,rfl⟩
    have HNb:=AD hn2
    clear hn2
    by_cases hr:0≤u0∧u0≤255
    case pos=>
     have HAnd:=AD (VS u0 hr)
     have hor3:11<u1∨u1≠u0%16∨(u1=0∧u0≠0∧u0≠240):=by omega
     clear hor2
     repeat' (first
      | (refine AR 69 ?_);refine Ae ?_;refine B5 rfl (.iface Z.tid Z.ptr) rfl [.bool false] rfl Z.f #[Z.ptr, .bool false] (Z.inv false) (Z.call _ _ _ s false _ _ _ _ _ hS AL HN2.out) ?_;clear hS;rintro e w ⟨rfl,hS⟩;refine Ac ?_;go_step|refine X0 ?_|refine X4 66 ?_|refine X3 70 ?_|refine X3 71 ?_|refine I5 14 ?_;clear hS;intro g14 w hS|refine Iw ?_;clear hS;intro w hS|refine AF ?_;go_step|fail)
     all_goals (try exact AQ)
     repeat' (first
      | (refine AR 89 ?_);refine AM (f:=121) Tryz.call121 AA ?_;refine ⟨_,(Cs u1 u2 _ hB2),?_⟩;rintro e w' ⟨rfl,rfl⟩;rw [HNb.out];refine Ac ?_;go_step|refine X0 ?_|refine E8 73 ?_|refine Ix 85 ?_|refine aJ 87 ?_|refine X3 90 ?_|refine X3 91 ?_|refine Rs ?_|refine Rq 82 ?_;clear hS;intro g82 w hS|refine VO 83 ?_;clear hS;intro ad83 c83 w hS|refine X9 ?_|refine AF ?_;go_step|fail)
     all_goals (try exact AQ)
     repeat' (first
      | refine TX 99 ?_|(refine AR 133 ?_);refine Ae ?_;refine BK (f:=120) rfl rfl Tryz.call120 (CX _ _) ?_;rintro e w ⟨rfl,hE⟩;replace hS:=hS.ext hE;clear hE;refine Ac ?_;go_step|go_big_skip|refine X0 ?_|refine I7 ?_|refine FW 93 ?_ ?_<;>intro hB<;>(try exact AQ)<;>go_step|refine FW 100 ?_ ?_<;>intro hB<;>(try exact AQ)<;>go_step|refine J4 105 ?_ ?_<;>intro hB<;>(try exact AQ)<;>go_step|refine En 110 ?_ ?_<;>intro hB<;>(try exact AQ)<;>go_step|refine J4 115 ?_ ?_<;>intro hB<;>(try exact AQ)<;>go_step|refine II 120 ?_ ?_<;>intro hB<;>(try exact AQ)<;>go_step|refine FW 124 ?_ ?_<;>intro hB<;>(try exact AQ)<;>go_step|refine Ix 95 ?_|refine FX 97 ?_|refine Ix 103 ?_|refine FX 108 ?_|refine FX 113 ?_|refine Ix 118 ?_|refine FX 122 ?_|refine FX 127 ?_|refine E8 129 ?_|refine X3 134 ?_|refine X3 135 ?_|refine X3 136 ?_|refine X9 ?_|refine Fu ?_;clear hS;intro w hS|refine AF ?_;go_step|fail)
     all_goals (try exact AQ)
     all_goals
      refine AK (xs:=[_,_,_]) rfl (.cons (AC.arr hS rfl (AO (n:=64) rfl) AL) (.cons (AC.tmp rfl) (.cons (AC.tmp rfl) (.nil)))) (by simp) rfl ?_
      exact C4 4 HF2.out hS AV
    case neg=>
     have hr2:u0<0∨255<u0:=by omega
     clear hor2 hr
     repeat' (first
      | (refine AR 69 ?_);refine Ae ?_;refine B5 rfl (.iface Z.tid Z.ptr) rfl [.bool false] rfl Z.f #[Z.ptr, .bool false] (Z.inv false) (Z.call _ _ _ s false _ _ _ _ _ hS AL HN2.out) ?_;clear hS;rintro e w ⟨rfl,hS⟩;refine Ac ?_;go_step|refine X0 ?_|refine X4 66 ?_|refine X3 70 ?_|refine X3 71 ?_|refine I5 14 ?_;clear hS;intro g14 w hS|refine Iw ?_;clear hS;intro w hS|refine AF ?_;go_step|fail)
     all_goals (try exact AQ)
     repeat' (first
      | (refine AR 89 ?_);refine AM (f:=121) Tryz.call121 AA ?_;refine ⟨_,(Cs u1 u2 _ hB2),?_⟩;rintro e w' ⟨rfl,rfl⟩;rw [HNb.out];refine Ac ?_;go_step|refine X0 ?_|refine E8 73 ?_|refine Ix 85 ?_|refine aJ 87 ?_|refine X3 90 ?_|refine X3 91 ?_|refine Rs ?_|refine Rq 82 ?_;clear hS;intro g82 w hS|refine VO 83 ?_;clear hS;intro ad83 c83 w hS|refine X9 ?_|refine AF ?_;go_step|fail)
     all_goals (try exact AQ)
     repeat' (first
      | (refine AR 133 ?_);refine Ae ?_;refine BK (f:=120) rfl rfl Tryz.call120 (CX _ _) ?_;rintro e w ⟨rfl,hE⟩;replace hS:=hS.ext hE;clear hE;refine Ac ?_;go_step|go_big_skip|refine X0 ?_|refine I7 ?_|refine FW 93 ?_ ?_<;>intro hB<;>(try exact AQ)<;>go_step|refine FW 100 ?_ ?_<;>intro hB<;>(try exact AQ)<;>go_step|refine J4 105 ?_ ?_<;>intro hB<;>(try exact AQ)<;>go_step|refine En 110 ?_ ?_<;>intro hB<;>(try exact AQ)<;>go_step|refine J4 115 ?_ ?_<;>intro hB<;>(try exact AQ)<;>go_step|refine Ix 95 ?_|refine FX 97 ?_|(refine AR 99 ?_);(refine An AA (V.and rfl rfl) ?_;go_step)|refine Ix 103 ?_|refine FX 108 ?_|refine FX 113 ?_|refine X3 134 ?_|refine X3 135 ?_|refine X3 136 ?_|refine X9 ?_|refine Fu ?_;clear hS;intro w hS|refine AF ?_;go_step|fail)
     all_goals (try exact AQ)
     all_goals
      refine AK (xs:=[_,_,_]) rfl (.cons (AC.arr hS rfl (AO (n:=64) rfl) AL) (.cons (AC.tmp rfl) (.cons (AC.tmp rfl) (.nil)))) (by simp) rfl ?_
      exact C4 4 HF2.out hS AV
   case false=>
    rw [if_neg (by simp)] at hlo
    have hgood:Pa u1 u2=true∧u1≤11∧0≤u0∧u0≤255∧u1=u0%16∧(u1≠0∨u0=0∨u0=240):=by
     by_cases hB2:Pa u1 u2=true
     ·refine ⟨hB2,?_⟩
      have hno:¬(11<u1∨u0<0∨255<u0∨u1≠u0%16∨(u1=0∧u0≠0∧u0≠240)):=fun h=>by have:=hiff.2 (.inr h);cases this
      omega
     have:=hiff.2 (.inl (by simpa using hB2));cases this
    obtain ⟨hB2,g1,g2,g3,g4,g5⟩:=hgood
    have HAnd:=AD (VS u0 ⟨g2,g3⟩)
    obtain ⟨nb1,nb2,nb3⟩:=KG u0 u1 u2 hB2
    have nb4:=nb3 g1
    obtain ⟨n2,hn2⟩:∃x,DA (u0,u1,u2)=x:=⟨_,rfl⟩
    rw [hn2] at nb4 hlo
    have HNb:Hid (D5 u1.toNat u2.toNat=n2):=AD hn2
    clear hiff hbd hn2 nb1 nb2 nb3
    by_cases hend:u0=0
    case pos=>
     rw [if_pos hend] at hlo
     have HLo2:=AD hlo
     have HAl2:Hid ((all++[(u0,u1,u2)]).length=m+1):=AD (by rw [List.length_append,HAl.out];rfl)
     clear hlo HAl
     obtain ⟨al2,hal2⟩:∃x,all++[(u0,u1,u2)]=x:=⟨_,rfl⟩
     rw [hal2] at HLo2 HAl2 HFl
     clear hal2
     obtain ⟨zf,hzf⟩:∃x,Cc bl=x:=⟨_,rfl⟩
     have hzl:Al zf 64:=by rw [←hzf];exact ER bl
     have HZf:KW (Cc bl=zf):=⟨hzf⟩
     clear hzf
     repeat' (first
      | (refine AR 69 ?_);refine Ae ?_;refine B5 rfl (.iface Z.tid Z.ptr) rfl [.bool false] rfl Z.f #[Z.ptr, .bool false] (Z.inv false) (Z.call _ _ _ s false _ _ _ _ _ hS AL HN2.out) ?_;clear hS;rintro e w ⟨rfl,hS⟩;refine Ac ?_;go_step|refine X0 ?_|refine X4 66 ?_|refine X3 70 ?_|refine X3 71 ?_|refine I5 14 ?_;clear hS;intro g14 w hS|refine Iw ?_;clear hS;intro w hS|refine AF ?_;go_step|fail)
     all_goals (try exact AQ)
     repeat' (first
      | (refine AR 89 ?_);refine AM (f:=121) Tryz.call121 AA ?_;refine ⟨_,(Cs u1 u2 _ hB2),?_⟩;rintro e w' ⟨rfl,rfl⟩;rw [HNb.out];refine Ac ?_;go_step|refine X0 ?_|refine E8 73 ?_|refine Ix 85 ?_|refine aJ 87 ?_|refine X3 90 ?_|refine X3 91 ?_|refine Rs ?_|refine Rq 82 ?_;clear hS;intro g82 w hS|refine VO 83 ?_;clear hS;intro ad83 c83 w hS|refine X9 ?_|refine AF ?_;go_step|fail)
     all_goals (try exact AQ)
     repeat' (first
      | refine TX 99 ?_|go_big_skip|refine X1 ?_|refine I7 ?_|refine FW 93 ?_ ?_<;>intro hB<;>(try exact AQ)<;>go_step|refine FW 100 ?_ ?_<;>intro hB<;>(try exact AQ)<;>go_step|refine J4 105 ?_ ?_<;>intro hB<;>(try exact AQ)<;>go_step|refine En 110 ?_ ?_<;>intro hB<;>(try exact AQ)<;>go_step|refine J4 115 ?_ ?_<;>intro hB<;>(try exact AQ)<;>go_step|refine II 120 ?_ ?_<;>intro hB<;>(try exact AQ)<;>go_step|refine FW 124 ?_ ?_<;>intro hB<;>(try exact AQ)<;>go_step|refine Ix 95 ?_|refine FX 97 ?_|refine Ix 103 ?_|refine FX 108 ?_|refine FX 113 ?_|refine Ix 118 ?_|refine FX 122 ?_|refine X9 ?_|refine AF ?_;go_step|fail)
     all_goals (try exact AQ)
     repeat' (first
      | refine FX 137 ?_|refine J6 139 ?_|refine X9 ?_|refine AF ?_;go_step|fail)
     all_goals (try exact AQ)
     repeat' (first
      | (refine Aq 67 ?_);refine As AA Tryz.call67 (NH _ bl hbl.out) ?_;rintro e w ⟨rfl,hE⟩;rw [HZf.out];replace hS:=hS.ext hE;clear hE;refine Ac ?_;go_step|refine X1 ?_|refine I6 ?_|refine Fu ?_;clear hS;intro w hS|refine AF ?_;go_step|fail)
     all_goals (try exact AQ)
     rw [←HFl.out] at hS
     have hzb:∀i,i<64→ -2047≤AJ zf i∧AJ zf i≤2047:=fun i hi=>by
      rw [←HZf.out];exact Ln bl HBl.out i hi
     have HZb:=AD hzb
     obtain ⟨T,hT⟩:∃T,BO before bl=T:=⟨_,rfl⟩
     have HTz:KW (BO before (FS zf)=T):=⟨by rw [←HZf.out,JU bl hbl.out,hT]⟩
     obtain ⟨NT,hNT⟩:∃N,T.length=N:=⟨_,rfl⟩
     have hNT64:NT≤64:=by rw [←hNT,←hT];exact (LZ before bl hbl.out).2
     have HTl:=AD hNT
     have HRT:KW (Df Z.next before s0=if T=al2 then (0,zf,al2,s2) else (4,BY,[],s2)):=⟨by
      rw [HF.out,←HLo2.out]
      dsimp only
      rw [if_neg (by simp),hT,HZf.out]⟩
     clear hzb hT hNT
     by_cases hEq:T=al2
     case pos=>
      have HD:=AD (show decide (Eo T=Eo al2)=true from decide_eq_true (by rw [hEq]))
      have HRF:KW (Df Z.next before s0=(0,zf,al2,s2)):=⟨by rw [HRT.out,if_pos hEq]⟩
      clear hEq
      repeat' (first
       | (refine AR 168 ?_);refine AM (f:=124) Tryz.call124 AA ?_;refine ⟨_,(Ek _ before zf hzl hb HZb.out),?_⟩;rintro e w ⟨a5,c5,rfl,hS2⟩;rw [HTz.out,HTl.out] at hS2;rw [HTz.out,HTl.out];replace hS:=hS.call1 hS2;clear hS2;refine Ac ?_;go_step|(refine AR 170 ?_);refine AM (f:=123) Tryz.call123 AA ?_;refine ⟨_,(E4 _ a5 ad83 NT c5 (m+1) c83 (Eo T) (Eo al2) (hS.sl (a:=a5) AL) (hS.sl (a:=ad83) AL) (by omega) (by omega)),?_⟩;rintro e w ⟨he,hE⟩;rw [HD.out] at he;subst he;replace hS:=hS.ext hE;clear hE;refine Ac ?_;go_step|refine X0 ?_|refine Ym 171 ?_|refine I6 ?_|refine Fu ?_;clear hS;intro w hS|refine AF ?_;go_step|fail)
      all_goals (try exact AQ)
      refine AK (xs:=[_,_,_]) rfl (.cons (AC.arr hS rfl (AO (n:=64) rfl) AL) (.cons (AC.tmp rfl) (.cons (AC.tmp rfl) (.nil)))) (by simp) rfl ?_
      refine ⟨ad83,c83,?_,?_⟩
      ·rw [HRF.out];dsimp only;rw [HAl2.out];first|done|rfl
      rw [HRF.out];dsimp only;rw [HAl2.out];exact hS.sub AV
     case neg=>
      have HD:=AD (show decide (Eo T=Eo al2)=false from decide_eq_false (fun h=>hEq (NX h)))
      have HRF:Df Z.next before s0=(4,BY,[],s2):=by rw [HRT.out,if_neg hEq]
      have HRF2:KW (Df Z.next before s0=(4,BY,[],s2)):=⟨HRF⟩
      clear hEq HRF
      repeat' (first
       | (refine AR 168 ?_);refine AM (f:=124) Tryz.call124 AA ?_;refine ⟨_,(Ek _ before zf hzl hb HZb.out),?_⟩;rintro e w ⟨a5,c5,rfl,hS2⟩;rw [HTz.out,HTl.out] at hS2;rw [HTz.out,HTl.out];replace hS:=hS.call1 hS2;clear hS2;refine Ac ?_;go_step|(refine AR 170 ?_);refine AM (f:=123) Tryz.call123 AA ?_;refine ⟨_,(E4 _ a5 ad83 NT c5 (m+1) c83 (Eo T) (Eo al2) (hS.sl (a:=a5) AL) (hS.sl (a:=ad83) AL) (by omega) (by omega)),?_⟩;rintro e w ⟨he,hE⟩;rw [HD.out] at he;subst he;replace hS:=hS.ext hE;clear hE;refine Ac ?_;go_step|(refine AR 173 ?_);refine Ae ?_;refine BK (f:=120) rfl rfl Tryz.call120 (CX _ _) ?_;rintro e w ⟨rfl,hE⟩;replace hS:=hS.ext hE;clear hE;refine Ac ?_;go_step|refine X0 ?_|refine Ym 171 ?_|refine X3 174 ?_|refine X3 175 ?_|refine X3 176 ?_|refine Fu ?_;clear hS;intro w hS|refine AF ?_;go_step|fail)
      all_goals (try exact AQ)
      refine AK (xs:=[_,_,_]) rfl (.cons (AC.arr hS rfl (AO (n:=64) rfl) AL) (.cons (AC.tmp rfl) (.cons (AC.tmp rfl) (.nil)))) (by simp) rfl ?_
      exact C4 4 HRF2.out hS AV
    case neg=>
     rw [if_neg hend] at hlo
     by_cases hlong:u0=240
     case pos=>
      rw [if_pos hlong] at hlo
      by_cases hov:64<at_+16
      case pos=>
       rw [if_pos hov] at hlo
       have HF2:Hid (Df Z.next before s0=(4,BY,[],s2)):=AD (by rw [HF.out,←hlo];exact if_pos (show (4:Int)≠0 by decide))
       clear hlo
       repeat' (first
        | (refine AR 69 ?_);refine Ae ?_;refine B5 rfl (.iface Z.tid Z.ptr) rfl [.bool false] rfl Z.f #[Z.ptr, .bool false] (Z.inv false) (Z.call _ _ _ s false _ _ _ _ _ hS AL HN2.out) ?_;clear hS;rintro e w ⟨rfl,hS⟩;refine Ac ?_;go_step|refine X0 ?_|refine X4 66 ?_|refine X3 70 ?_|refine X3 71 ?_|refine I5 14 ?_;clear hS;intro g14 w hS|refine Iw ?_;clear hS;intro w hS|refine AF ?_;go_step|fail)
       all_goals (try exact AQ)
       repeat' (first
        | (refine AR 89 ?_);refine AM (f:=121) Tryz.call121 AA ?_;refine ⟨_,(Cs u1 u2 _ hB2),?_⟩;rintro e w' ⟨rfl,rfl⟩;rw [HNb.out];refine Ac ?_;go_step|refine X0 ?_|refine E8 73 ?_|refine Ix 85 ?_|refine aJ 87 ?_|refine X3 90 ?_|refine X3 91 ?_|refine Rs ?_|refine Rq 82 ?_;clear hS;intro g82 w hS|refine VO 83 ?_;clear hS;intro ad83 c83 w hS|refine X9 ?_|refine AF ?_;go_step|fail)
       all_goals (try exact AQ)
       repeat' (first
        | refine TX 99 ?_|refine X1 ?_|refine I7 ?_|refine FW 93 ?_ ?_<;>intro hB<;>(try exact AQ)<;>go_step|refine FW 100 ?_ ?_<;>intro hB<;>(try exact AQ)<;>go_step|refine J4 105 ?_ ?_<;>intro hB<;>(try exact AQ)<;>go_step|refine En 110 ?_ ?_<;>intro hB<;>(try exact AQ)<;>go_step|refine J4 115 ?_ ?_<;>intro hB<;>(try exact AQ)<;>go_step|refine II 120 ?_ ?_<;>intro hB<;>(try exact AQ)<;>go_step|refine FW 124 ?_ ?_<;>intro hB<;>(try exact AQ)<;>go_step|refine Ix 95 ?_|refine FX 97 ?_|refine Ix 103 ?_|refine FX 108 ?_|refine FX 113 ?_|refine Ix 118 ?_|refine FX 122 ?_|refine FX 127 ?_|refine E8 129 ?_|refine X9 ?_|refine AF ?_;go_step|fail)
       all_goals (try exact AQ)
       repeat' (first
        | (refine AR 160 ?_);refine Ae ?_;refine BK (f:=120) rfl rfl Tryz.call120 (CX _ _) ?_;rintro e w ⟨rfl,hE⟩;replace hS:=hS.ext hE;clear hE;refine Ac ?_;go_step|refine X0 ?_|refine FX 137 ?_|refine J6 139 ?_|refine FX 140 ?_|refine J6 142 ?_|refine Ls 144 ?_|refine Ka 158 ?_|refine X3 161 ?_|refine X3 162 ?_|refine X3 163 ?_|refine X9 ?_|refine Fu ?_;clear hS;intro w hS|refine AF ?_;go_step|fail)
       all_goals (try exact AQ)
       all_goals
        refine AK (xs:=[_,_,_]) rfl (.cons (AC.arr hS rfl (AO (n:=64) rfl) AL) (.cons (AC.tmp rfl) (.cons (AC.tmp rfl) (.nil)))) (by simp) rfl ?_
        exact C4 4 HF2.out hS AV
      case neg=>
       rw [if_neg hov] at hlo
       have HLo2:=AD hlo
       clear hlo
       repeat' (first
        | (refine AR 69 ?_);refine Ae ?_;refine B5 rfl (.iface Z.tid Z.ptr) rfl [.bool false] rfl Z.f #[Z.ptr, .bool false] (Z.inv false) (Z.call _ _ _ s false _ _ _ _ _ hS AL HN2.out) ?_;clear hS;rintro e w ⟨rfl,hS⟩;refine Ac ?_;go_step|refine X0 ?_|refine X4 66 ?_|refine X3 70 ?_|refine X3 71 ?_|refine I5 14 ?_;clear hS;intro g14 w hS|refine Iw ?_;clear hS;intro w hS|refine AF ?_;go_step|fail)
       all_goals (try exact AQ)
       repeat' (first
        | (refine AR 89 ?_);refine AM (f:=121) Tryz.call121 AA ?_;refine ⟨_,(Cs u1 u2 _ hB2),?_⟩;rintro e w' ⟨rfl,rfl⟩;rw [HNb.out];refine Ac ?_;go_step|refine X0 ?_|refine E8 73 ?_|refine Ix 85 ?_|refine aJ 87 ?_|refine X3 90 ?_|refine X3 91 ?_|refine Rs ?_|refine Rq 82 ?_;clear hS;intro g82 w hS|refine VO 83 ?_;clear hS;intro ad83 c83 w hS|refine X9 ?_|refine AF ?_;go_step|fail)
       all_goals (try exact AQ)
       repeat' (first
        | refine TX 99 ?_|refine X1 ?_|refine I7 ?_|refine FW 93 ?_ ?_<;>intro hB<;>(try exact AQ)<;>go_step|refine FW 100 ?_ ?_<;>intro hB<;>(try exact AQ)<;>go_step|refine J4 105 ?_ ?_<;>intro hB<;>(try exact AQ)<;>go_step|refine En 110 ?_ ?_<;>intro hB<;>(try exact AQ)<;>go_step|refine J4 115 ?_ ?_<;>intro hB<;>(try exact AQ)<;>go_step|refine II 120 ?_ ?_<;>intro hB<;>(try exact AQ)<;>go_step|refine FW 124 ?_ ?_<;>intro hB<;>(try exact AQ)<;>go_step|refine Ix 95 ?_|refine FX 97 ?_|refine Ix 103 ?_|refine FX 108 ?_|refine FX 113 ?_|refine Ix 118 ?_|refine FX 122 ?_|refine FX 127 ?_|refine E8 129 ?_|refine X9 ?_|refine AF ?_;go_step|fail)
       all_goals (try exact AQ)
       repeat' (first
        | refine X0 ?_|refine FX 137 ?_|refine J6 139 ?_|refine FX 140 ?_|refine J6 142 ?_|refine Ls 144 ?_|refine Ka 158 ?_|refine X9 ?_|refine AF ?_;go_step|fail)
       all_goals (try exact AQ)
       go_roundg gk'
       case measure=>omega
       case rel=>exact ⟨at_+16,m+1,bl,all++[(u0,u1,u2)],ad83,c83,s2,by omega,by omega,by omega,by omega,by go_num,rfl,AD (by rw [List.length_append,HAl.out];rfl),hbl,HBl,HLo2,(by rw [HFl.out];exact hS.sub AV)⟩
     case neg=>
      rw [if_neg hlong] at hlo
      obtain ⟨r,hr⟩:∃r:Nat,u0/16=(r:Int):=⟨(u0/16).toNat,by omega⟩
      have hr2:u0.toNat/16=r:=by omega
      have hr15:r≤15:=by omega
      rw [hr2] at hlo
      have HR4:Hid (u0/2^4=(r:Int)):=AD (by rw [show (2:Int)^4=16 from rfl];exact hr)
      clear hr hr2
      by_cases hov:64≤at_+r
      case pos=>
       rw [if_pos hov] at hlo
       have HF2:Hid (Df Z.next before s0=(4,BY,[],s2)):=AD (by rw [HF.out,←hlo];exact if_pos (show (4:Int)≠0 by decide))
       clear hlo
       repeat' (first
        | (refine AR 69 ?_);refine Ae ?_;refine B5 rfl (.iface Z.tid Z.ptr) rfl [.bool false] rfl Z.f #[Z.ptr, .bool false] (Z.inv false) (Z.call _ _ _ s false _ _ _ _ _ hS AL HN2.out) ?_;clear hS;rintro e w ⟨rfl,hS⟩;refine Ac ?_;go_step|refine X0 ?_|refine X4 66 ?_|refine X3 70 ?_|refine X3 71 ?_|refine I5 14 ?_;clear hS;intro g14 w hS|refine Iw ?_;clear hS;intro w hS|refine AF ?_;go_step|fail)
       all_goals (try exact AQ)
       repeat' (first
        | (refine AR 89 ?_);refine AM (f:=121) Tryz.call121 AA ?_;refine ⟨_,(Cs u1 u2 _ hB2),?_⟩;rintro e w' ⟨rfl,rfl⟩;rw [HNb.out];refine Ac ?_;go_step|refine X0 ?_|refine E8 73 ?_|refine Ix 85 ?_|refine aJ 87 ?_|refine X3 90 ?_|refine X3 91 ?_|refine Rs ?_|refine Rq 82 ?_;clear hS;intro g82 w hS|refine VO 83 ?_;clear hS;intro ad83 c83 w hS|refine X9 ?_|refine AF ?_;go_step|fail)
       all_goals (try exact AQ)
       repeat' (first
        | refine TX 99 ?_|go_big_skip|refine X1 ?_|refine IE ?_|refine FW 93 ?_ ?_<;>intro hB<;>(try exact AQ)<;>go_step|refine FW 100 ?_ ?_<;>intro hB<;>(try exact AQ)<;>go_step|refine J4 105 ?_ ?_<;>intro hB<;>(try exact AQ)<;>go_step|refine En 110 ?_ ?_<;>intro hB<;>(try exact AQ)<;>go_step|refine J4 115 ?_ ?_<;>intro hB<;>(try exact AQ)<;>go_step|refine II 120 ?_ ?_<;>intro hB<;>(try exact AQ)<;>go_step|refine Ix 95 ?_|refine FX 97 ?_|refine Ix 103 ?_|refine FX 108 ?_|refine FX 113 ?_|refine Ix 118 ?_|refine X9 ?_|refine AF ?_;go_step|fail)
       all_goals (try exact AQ)
       repeat' (first
        | (refine AR 148 ?_);(refine Ag (.int _ (((r:Nat):Int))) (V.as (V.shr rfl rfl A9 (by omega) rfl) (by exact HR4.out)) (by kernel_rfl) ?_;go_step)|(refine AR 160 ?_);refine Ae ?_;refine BK (f:=120) rfl rfl Tryz.call120 (CX _ _) ?_;rintro e w ⟨rfl,hE⟩;replace hS:=hS.ext hE;clear hE;refine Ac ?_;go_step|refine X0 ?_|refine FX 137 ?_|refine J6 139 ?_|refine FX 140 ?_|refine J6 142 ?_|refine FX 146 ?_|refine Ls 149 ?_|refine X4 151 ?_|refine Ls 156 ?_|refine Ka 158 ?_|refine X3 161 ?_|refine X3 162 ?_|refine X3 163 ?_|refine X9 ?_|refine Fu ?_;clear hS;intro w hS|refine AF ?_;go_step|fail)
       all_goals (try exact AQ)
       all_goals
        refine AK (xs:=[_,_,_]) rfl (.cons (AC.arr hS rfl (AO (n:=64) rfl) AL) (.cons (AC.tmp rfl) (.cons (AC.tmp rfl) (.nil)))) (by simp) rfl ?_
        exact C4 4 HF2.out hS AV
      case neg=>
       rw [if_neg hov] at hlo
       have HLo2:=AD hlo
       have HBl2:Hid (∀i,i<64→ -2047≤AJ (bl.set (at_+r) n2) i∧AJ (bl.set (at_+r) n2) i≤2047):=AD fun i hi=>by
        rw [CO _ _ _ _ (by rw [hbl.out];omega)]
        split
        ·omega
        exact HBl.out i hi
       have hbl2:Al (bl.set (at_+r) n2) 64:=Al.set hbl
       clear hlo
       repeat' (first
        | (refine AR 69 ?_);refine Ae ?_;refine B5 rfl (.iface Z.tid Z.ptr) rfl [.bool false] rfl Z.f #[Z.ptr, .bool false] (Z.inv false) (Z.call _ _ _ s false _ _ _ _ _ hS AL HN2.out) ?_;clear hS;rintro e w ⟨rfl,hS⟩;refine Ac ?_;go_step|refine X0 ?_|refine X4 66 ?_|refine X3 70 ?_|refine X3 71 ?_|refine I5 14 ?_;clear hS;intro g14 w hS|refine Iw ?_;clear hS;intro w hS|refine AF ?_;go_step|fail)
       all_goals (try exact AQ)
       repeat' (first
        | (refine AR 89 ?_);refine AM (f:=121) Tryz.call121 AA ?_;refine ⟨_,(Cs u1 u2 _ hB2),?_⟩;rintro e w' ⟨rfl,rfl⟩;rw [HNb.out];refine Ac ?_;go_step|refine X0 ?_|refine E8 73 ?_|refine Ix 85 ?_|refine aJ 87 ?_|refine X3 90 ?_|refine X3 91 ?_|refine Rs ?_|refine Rq 82 ?_;clear hS;intro g82 w hS|refine VO 83 ?_;clear hS;intro ad83 c83 w hS|refine X9 ?_|refine AF ?_;go_step|fail)
       all_goals (try exact AQ)
       repeat' (first
        | refine TX 99 ?_|go_big_skip|refine X1 ?_|refine IE ?_|refine FW 93 ?_ ?_<;>intro hB<;>(try exact AQ)<;>go_step|refine FW 100 ?_ ?_<;>intro hB<;>(try exact AQ)<;>go_step|refine J4 105 ?_ ?_<;>intro hB<;>(try exact AQ)<;>go_step|refine En 110 ?_ ?_<;>intro hB<;>(try exact AQ)<;>go_step|refine J4 115 ?_ ?_<;>intro hB<;>(try exact AQ)<;>go_step|refine II 120 ?_ ?_<;>intro hB<;>(try exact AQ)<;>go_step|refine Ix 95 ?_|refine FX 97 ?_|refine Ix 103 ?_|refine FX 108 ?_|refine FX 113 ?_|refine Ix 118 ?_|refine X9 ?_|refine AF ?_;go_step|fail)
       all_goals (try exact AQ)
       repeat' (first
        | (refine AR 148 ?_);(refine Ag (.int _ (((r:Nat):Int))) (V.as (V.shr rfl rfl A9 (by omega) rfl) (by exact HR4.out)) (by kernel_rfl) ?_;go_step)|refine X0 ?_|refine FX 137 ?_|refine J6 139 ?_|refine FX 140 ?_|refine J6 142 ?_|refine FX 146 ?_|refine Ls 149 ?_|refine X4 151 ?_|refine Yg 154 ?_|refine Ls 156 ?_|refine Ka 158 ?_|refine X9 ?_|refine YO ?_;clear hS;intro w hS|refine AF ?_;go_step|fail)
       all_goals (try exact AQ)
       go_roundg gk'
       case measure=>omega
       case rel=>exact ⟨at_+r+1,m+1,bl.set (at_+r) n2,all++[(u0,u1,u2)],ad83,c83,s2,by omega,by omega,by omega,by omega,by go_num,rfl,AD (by rw [List.length_append,HAl.out];rfl),hbl2,HBl2,HLo2,(by rw [HFl.out];exact hS.sub AV)⟩
  have hlo:=HLo.out
  have hR0:R=(0,bl,all,s):=by
   cases gk with
   | zero=>rw [←hlo,BI]
   | succ g=>rw [←hlo,BI,if_pos (by omega)]
  have HLo2:Hid ((0,bl,all,s)=R):=AD hR0.symm
  have HAl2:Hid (all.length=m):=HAl
  clear hlo hR0 HLo
  obtain ⟨zf,hzf⟩:∃x,Cc bl=x:=⟨_,rfl⟩
  have hzl:Al zf 64:=by rw [←hzf];exact ER bl
  have HZf:KW (Cc bl=zf):=⟨hzf⟩
  clear hzf
  repeat' (first
   | refine X1 ?_|refine X4 66 ?_|refine AF ?_;go_step|fail)
  all_goals (try exact AQ)
  repeat' (first
   | (refine Aq 67 ?_);refine As AA Tryz.call67 (NH _ bl hbl.out) ?_;rintro e w ⟨rfl,hE⟩;rw [HZf.out];replace hS:=hS.ext hE;clear hE;refine Ac ?_;go_step|refine X1 ?_|refine I6 ?_|refine Fu ?_;clear hS;intro w hS|refine AF ?_;go_step|fail)
  have hzb:∀i,i<64→ -2047≤AJ zf i∧AJ zf i≤2047:=fun i hi=>by
   rw [←HZf.out];exact Ln bl HBl.out i hi
  have HZb:=AD hzb
  obtain ⟨T,hT⟩:∃T,BO before bl=T:=⟨_,rfl⟩
  have HTz:KW (BO before (FS zf)=T):=⟨by rw [←HZf.out,JU bl hbl.out,hT]⟩
  obtain ⟨NT,hNT⟩:∃N,T.length=N:=⟨_,rfl⟩
  have hNT64:NT≤64:=by rw [←hNT,←hT];exact (LZ before bl hbl.out).2
  have HTl:=AD hNT
  have HRT:KW (Df Z.next before s0=if T=all then (0,zf,all,s) else (4,BY,[],s)):=⟨by
   rw [HF.out,←HLo2.out]
   dsimp only
   rw [if_neg (by simp),hT,HZf.out]⟩
  clear hzb hT hNT
  by_cases hEq:T=all
  case pos=>
   have HD:=AD (show decide (Eo T=Eo all)=true from decide_eq_true (by rw [hEq]))
   have HRF:KW (Df Z.next before s0=(0,zf,all,s)):=⟨by rw [HRT.out,if_pos hEq]⟩
   clear hEq
   repeat' (first
    | (refine AR 168 ?_);refine AM (f:=124) Tryz.call124 AA ?_;refine ⟨_,(Ek _ before zf hzl hb HZb.out),?_⟩;rintro e w ⟨a5,c5,rfl,hS2⟩;rw [HTz.out,HTl.out] at hS2;rw [HTz.out,HTl.out];replace hS:=hS.call1 hS2;clear hS2;refine Ac ?_;go_step|(refine AR 170 ?_);refine AM (f:=123) Tryz.call123 AA ?_;refine ⟨_,(E4 _ a5 a' NT c5 (m) c' (Eo T) (Eo all) (hS.sl (a:=a5) AL) (hS.sl (a:=a') AL) (by omega) (by omega)),?_⟩;rintro e w ⟨he,hE⟩;rw [HD.out] at he;subst he;replace hS:=hS.ext hE;clear hE;refine Ac ?_;go_step|refine X0 ?_|refine Ym 171 ?_|refine I6 ?_|refine Fu ?_;clear hS;intro w hS|refine AF ?_;go_step|fail)
   all_goals (try exact AQ)
   refine AK (xs:=[_,_,_]) rfl (.cons (AC.arr hS rfl (AO (n:=64) rfl) AL) (.cons (AC.tmp rfl) (.cons (AC.tmp rfl) (.nil)))) (by simp) rfl ?_
   refine ⟨a',c',?_,?_⟩
   ·rw [HRF.out];dsimp only;rw [HAl2.out];first|done|rfl
   rw [HRF.out];dsimp only;rw [HAl2.out];exact hS.sub AV
  case neg=>
   have HD:=AD (show decide (Eo T=Eo all)=false from decide_eq_false (fun h=>hEq (NX h)))
   have HRF:Df Z.next before s0=(4,BY,[],s):=by rw [HRT.out,if_neg hEq]
   have HRF2:KW (Df Z.next before s0=(4,BY,[],s)):=⟨HRF⟩
   clear hEq HRF
   repeat' (first
    | (refine AR 168 ?_);refine AM (f:=124) Tryz.call124 AA ?_;refine ⟨_,(Ek _ before zf hzl hb HZb.out),?_⟩;rintro e w ⟨a5,c5,rfl,hS2⟩;rw [HTz.out,HTl.out] at hS2;rw [HTz.out,HTl.out];replace hS:=hS.call1 hS2;clear hS2;refine Ac ?_;go_step|(refine AR 170 ?_);refine AM (f:=123) Tryz.call123 AA ?_;refine ⟨_,(E4 _ a5 a' NT c5 (m) c' (Eo T) (Eo all) (hS.sl (a:=a5) AL) (hS.sl (a:=a') AL) (by omega) (by omega)),?_⟩;rintro e w ⟨he,hE⟩;rw [HD.out] at he;subst he;replace hS:=hS.ext hE;clear hE;refine Ac ?_;go_step|(refine AR 173 ?_);refine Ae ?_;refine BK (f:=120) rfl rfl Tryz.call120 (CX _ _) ?_;rintro e w ⟨rfl,hE⟩;replace hS:=hS.ext hE;clear hE;refine Ac ?_;go_step|refine X0 ?_|refine Ym 171 ?_|refine X3 174 ?_|refine X3 175 ?_|refine X3 176 ?_|refine Fu ?_;clear hS;intro w hS|refine AF ?_;go_step|fail)
   all_goals (try exact AQ)
   refine AK (xs:=[_,_,_]) rfl (.cons (AC.arr hS rfl (AO (n:=64) rfl) AL) (.cons (AC.tmp rfl) (.cons (AC.tmp rfl) (.nil)))) (by simp) rfl ?_
   exact C4 4 HRF2.out hS AV
end Go.Proofs.YtohacgmhmbijmaaGreatDoor
