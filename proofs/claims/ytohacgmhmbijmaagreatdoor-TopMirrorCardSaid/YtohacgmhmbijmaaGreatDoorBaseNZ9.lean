/- What the laws FrameAlone FrameGray FrameNear FrameFlat TopScale TopMirror need, part 9. -/
import Derived.Test.YtohacgmhmbijmaaGreatDoorBaseNZ2
import Derived.Test.YtohacgmhmbijmaaGreatDoorBaseNZ3
import Derived.Test.YtohacgmhmbijmaaGreatDoorBaseNZ8
namespace Go.Proofs.YtohacgmhmbijmaaGreatDoor
attribute [local irreducible] Region.wanted
open Go.RowKit
set_option linter.unusedVariables false
set_option maxRecDepth 100000
set_option maxHeartbeats 8000000
theorem ZD{W:World}{σ:Type}(Z:jT W σ)(w0:World)(rs rs':List Au)(s0:σ)(before:Int)(hb: -2047≤before∧before≤2047)(hS:St W w0 rs)(hp:AW (Z.res s0) rs rs'):
 Calls Tryz.prog 88 #[.int .i64 before, .iface Z.tid Z.ptr] w0 (J5 Z before s0 rs'):=by
 by_cases hgood:(Z.next s0 true).2.1=0∧B6 before (Z.next s0 true).1=true
 case neg=>exact ZE Z w0 rs rs' s0 before hb hS hp hgood
 replace hS:=hS.pull hp
 have hZ0:Ae Bi 64:=List.length_replicate
 clear hp
 obtain ⟨⟨⟨t0,t1,t2⟩,er,s1⟩,hn⟩:∃x,Z.next s0 true=x:=⟨_,rfl⟩
 rw [hn] at hgood
 obtain ⟨he,hfst⟩:=hgood
 dsimp only at he hfst
 subst he
 have hf2:=hfst
 unfold B6 at hf2
 simp only [Bool.and_eq_true,decide_eq_true_eq] at hf2
 obtain ⟨⟨⟨q1,q2⟩,q3⟩,q4⟩:=hf2
 subst q3
 have hB:RK t0 t2=true:=by unfold RK;rw [decide_eq_true q1,decide_eq_true q2];rfl
 obtain ⟨n,hnum⟩:∃n,Df (t0,t0,t2)=n:=⟨_,rfl⟩
 have hnb:=Lb t0 t0 t2 hB
 rw [hnum] at hnb
 obtain ⟨hn1,hn2,_⟩:=hnb
 have HNum:Hid (Eb t0.toNat t2.toNat=n):=AD hnum
 rw [hnum] at q4
 have hco: -2047≤before+n∧before+n≤2047:=q4
 have HQ:Hid (bW (before+n)=true):=AD ((Hw _).2 hco)
 have HFirst:Hid (B6 before (t0,t0,t2)=true):=AD hfst
 have HN:=AD hn
 clear q1 q2 q4 hfst
 obtain ⟨R,hR⟩:∃R,BO Z.next 64 1 (CQ (before+n)) [(t0,t0,t2)] s1=R:=⟨_,rfl⟩
 have HF:Hid (D5 Z.next before s0=if R.1≠0 then (R.1,Bi,[],R.2.2.2) else if Ba before R.2.1=R.2.2.1 then (0,CW R.2.1,R.2.2.1,R.2.2.2) else (4,Bi,[],R.2.2.2)):=AD (by
  unfold D5;rw [hn];dsimp only
  rw [if_neg (by simp),if_neg (by rw [HFirst.out];simp),hnum,hR];rfl)
 have HR:=AD hR
 have hfl:Ae (CQ (before+n)) 64:=Ae.set Ae.rep
 have HFb:Hid (∀i,i<64→ -2047≤AF (CQ (before+n)) i∧AF (CQ (before+n)) i≤2047):=AD fun i hi=>by
  unfold CQ
  rw [Bj _ _ _ _ (by simp)]
  split
  ·exact hco
  rw [EJ];omega
 clear hn hnum hR hco
 go_enter Tryz.func88,Tryz.ntmps88
 repeat' (first
  | (refine AQ 19 ?_);refine Ad ?_;refine CO rfl (.iface Z.tid Z.ptr) rfl [.bool true] rfl Z.f #[Z.ptr, .bool true] (Z.inv true) (Z.call _ _ _ s0 true _ _ _ _ _ hS AM HN.out) ?_;clear hS;rintro e w ⟨rfl,hS⟩;refine Ab ?_;go_step|(refine AQ 37 ?_);refine AL (f:=121) Tryz.call121 AA ?_;refine ⟨_,(DS t0 t2 _ hB),?_⟩;rintro e w' ⟨rfl,rfl⟩;rw [HNum.out];refine Ab ?_;go_step|(refine Am 122 ?_);refine An AA Tryz.call122 (EH (before+n) _) ?_;rintro e w' ⟨rfl,rfl⟩;rw [HQ.out];refine Ab ?_;go_step|refine je 31 ?_;clear hS;intro g31 w hS|refine X0 ?_|refine Gj ?_|refine X9 41 ?_ ?_<;>intro hB<;>(try exact AS)<;>go_step|refine X9 47 ?_ ?_<;>intro hB<;>(try exact AS)<;>go_step|refine X7 ?_|refine X5 ?_|refine T4 ?_|refine gX ?_|refine Xr ?_|refine X6 ?_|refine SE ?_|(refine AQ 64 ?_);(refine Aq AA (V.build (vs:=[(0,_)]) rfl (gy _)) ?_;go_step)|refine Kk 4 ?_;clear hS;intro g4 w hS|refine KA 8 ?_;clear hS;intro g8 w hS|refine Jw ?_;clear hS;intro w hS|refine Ft ?_;clear hS;intro w hS|refine T5 ?_|refine E6 ?_|refine Kk 12 ?_;clear hS;intro g12 w hS|refine AG ?_;go_step|fail)
 all_goals (try exact AS)
 replace hS:=hS.sub (xs:=arr g12 64 ((List.replicate 64 0).set 0 (before+n))::own 155 3 (some ⟨g31,0,none⟩) 1 1 [.int .i64 t0, .int .i64 t0, .int .i64 t2]::arr g4 64 (List.replicate 64 0)::Z.res s1::rs') AV
 go_loopg [10,13] 64 (fun gk ov av w=>∃(at_ m:Nat) (bl:List Int) (all:List Cf) (a':Option Addr) (c':Nat) (s:σ),65≤gk+at_∧1≤at_∧at_≤64∧m≤at_∧av= .int .i64 at_∧ov= .slice a' m c'∧Hid (all.length=m)∧Ae bl 64∧Hid (∀i,i<64→ -2047≤AF bl i∧AF bl i≤2047)∧Hid (BO Z.next gk at_ bl all s=R)∧
  St W w (arr g12 64 bl::own 155 3 a' m c' ((FR all).map (Value.int .i64))::arr g4 64 (List.replicate 64 0)::Z.res s::rs'))
 case atStart=>exact ⟨1,1,CQ (before+n),[(t0,t0,t2)],_,_,s1,by omega,by omega,by omega,by omega,rfl,rfl,AD rfl,hfl,HFb,HR,hS⟩
 case round=>
  clear hS HFb hfl
  obtain ⟨at_,m,bl,all,a',c',s,hga,h1a,ha64,hma,rfl,rfl,HAl,hbl,HBl,HLo,hS⟩:=hrel
  by_cases hlt:at_<64
  ·obtain ⟨gk',rfl⟩:∃x,gk=x+1:=⟨gk-1,by omega⟩
   obtain ⟨⟨⟨u0,u1,u2⟩,er,s2⟩,hn⟩:∃x,Z.next s false=x:=⟨_,rfl⟩
   have hlo:=HLo.out
   rw [BO,if_neg (by omega),hn] at hlo
   dsimp only at hlo
   have HN2:=AD hn
   clear hn HLo
   by_cases he:er=0
   case neg=>
    rw [if_pos he] at hlo
    have HF2:Hid (D5 Z.next before s0=(er,Bi,[],s2)):=AD (by rw [HF.out,←hlo];exact if_pos he)
    clear hlo
    repeat' (first
     | (refine AQ 69 ?_);refine Ad ?_;refine CO rfl (.iface Z.tid Z.ptr) rfl [.bool false] rfl Z.f #[Z.ptr, .bool false] (Z.inv false) (Z.call _ _ _ s false _ _ _ _ _ hS AM HN2.out) ?_;clear hS;rintro e w ⟨rfl,hS⟩;refine Ab ?_;go_step|refine X0 ?_|refine X4 66 ?_|refine X3 70 ?_|refine X3 71 ?_|refine KA 14 ?_;clear hS;intro g14 w hS|refine Jw ?_;clear hS;intro w hS|refine AG ?_;go_step|fail)
    all_goals (try exact AS)
    repeat' (first
     | (refine AQ 76 ?_);refine Ad ?_;refine BQ (f:=120) rfl rfl Tryz.call120 (Cs _ _) ?_;rintro e w ⟨rfl,hE⟩;replace hS:=hS.ext hE;clear hE;refine Ab ?_;go_step|refine X0 ?_|refine Gq 73 ?_|refine X3 77 ?_|refine X3 78 ?_|refine X3 79 ?_|refine Ft ?_;clear hS;intro w hS|refine AG ?_;go_step|fail)
    refine AO (xs:=[_,_,_]) rfl (.cons (AC.arr hS rfl (AN (n:=64) rfl) AM) (.cons (AC.tmp rfl) (.cons (AC.tmp rfl) (.nil)))) (by simp) rfl ?_
    exact DZ er HF2.out hS AV
   subst he
   rw [if_neg (by simp)] at hlo
   obtain ⟨bd,hbd⟩:∃b,Nt (u0,u1,u2)=b:=⟨_,rfl⟩
   have hiff:=UB u0 u1 u2
   rw [hbd] at hiff hlo
   have HFl:=AD (MU all (u0,u1,u2))
   dsimp only at HFl
   cases bd
   case true=>
    rw [if_pos rfl] at hlo
    have HF2:Hid (D5 Z.next before s0=(4,Bi,[],s2)):=AD (by rw [HF.out,←hlo];exact if_pos (show (4:Int)≠0 by decide))
    have hor:=hiff.1 rfl
    clear hlo hiff hbd
    by_cases hB2:RK u1 u2=true
    case neg=>
     have hB3:RK u1 u2=false:=by simpa using hB2
     clear hor hB2
     repeat' (first
      | (refine AQ 69 ?_);refine Ad ?_;refine CO rfl (.iface Z.tid Z.ptr) rfl [.bool false] rfl Z.f #[Z.ptr, .bool false] (Z.inv false) (Z.call _ _ _ s false _ _ _ _ _ hS AM HN2.out) ?_;clear hS;rintro e w ⟨rfl,hS⟩;refine Ab ?_;go_step|refine X0 ?_|refine X4 66 ?_|refine X3 70 ?_|refine X3 71 ?_|refine KA 14 ?_;clear hS;intro g14 w hS|refine Jw ?_;clear hS;intro w hS|refine AG ?_;go_step|fail)
     all_goals (try exact AS)
     repeat' (first
      | (refine AQ 89 ?_);refine AL (f:=121) Tryz.call121 AA ?_;refine ⟨_,(UA u1 u2 _ hB3),?_⟩;rintro e w' ⟨rfl,rfl⟩;refine Ab ?_;go_step|refine X0 ?_|refine Gq 73 ?_|refine Jy 85 ?_|refine e7 87 ?_|refine X3 90 ?_|refine X3 91 ?_|refine T5 ?_|refine T3 82 ?_;clear hS;intro g82 w hS|refine YD 83 ?_;clear hS;intro ad83 c83 w hS|refine E6 ?_|refine AG ?_;go_step|fail)
     all_goals (try exact AS)
     repeat' (first
      | (refine AQ 133 ?_);refine Ad ?_;refine BQ (f:=120) rfl rfl Tryz.call120 (Cs _ _) ?_;rintro e w ⟨rfl,hE⟩;replace hS:=hS.ext hE;clear hE;refine Ab ?_;go_step|go_big_skip|refine X0 ?_|refine GE ?_|refine X9 93 ?_ ?_<;>intro hB<;>(try exact AS)<;>go_step|refine X3 134 ?_|refine X3 135 ?_|refine X3 136 ?_|refine Ft ?_;clear hS;intro w hS|refine AG ?_;go_step|fail)
     all_goals (try exact AS)
     all_goals
      refine AO (xs:=[_,_,_]) rfl (.cons (AC.arr hS rfl (AN (n:=64) rfl) AM) (.cons (AC.tmp rfl) (.cons (AC.tmp rfl) (.nil)))) (by simp) rfl ?_
      exact DZ 4 HF2.out hS AV
    have hor2:11<u1∨u0<0∨255<u0∨u1≠u0%16∨(u1=0∧u0≠0∧u0≠240):=by
     rcases hor with h|h
     ·rw [hB2] at h;cases h
     exact h
    clear hor
    obtain ⟨n2,hn2⟩:∃x,Eb u1.toNat u2.toNat=x:=⟨_,rfl⟩
    have HNb:=AD hn2
    clear hn2
    by_cases hr:0≤u0∧u0≤255
    case pos=>
     have HAnd:=AD (YL u0 hr)
     have hor3:11<u1∨u1≠u0%16∨(u1=0∧u0≠0∧u0≠240):=by omega
     clear hor2
     repeat' (first
      | (refine AQ 69 ?_);refine Ad ?_;refine CO rfl (.iface Z.tid Z.ptr) rfl [.bool false] rfl Z.f #[Z.ptr, .bool false] (Z.inv false) (Z.call _ _ _ s false _ _ _ _ _ hS AM HN2.out) ?_;clear hS;rintro e w ⟨rfl,hS⟩;refine Ab ?_;go_step|refine X0 ?_|refine X4 66 ?_|refine X3 70 ?_|refine X3 71 ?_|refine KA 14 ?_;clear hS;intro g14 w hS|refine Jw ?_;clear hS;intro w hS|refine AG ?_;go_step|fail)
     all_goals (try exact AS)
     repeat' (first
      | (refine AQ 89 ?_);refine AL (f:=121) Tryz.call121 AA ?_;refine ⟨_,(DS u1 u2 _ hB2),?_⟩;rintro e w' ⟨rfl,rfl⟩;rw [HNb.out];refine Ab ?_;go_step|refine X0 ?_|refine Gq 73 ?_|refine Jy 85 ?_|refine e7 87 ?_|refine X3 90 ?_|refine X3 91 ?_|refine T5 ?_|refine T3 82 ?_;clear hS;intro g82 w hS|refine YD 83 ?_;clear hS;intro ad83 c83 w hS|refine E6 ?_|refine AG ?_;go_step|fail)
     all_goals (try exact AS)
     repeat' (first
      | refine Vm 99 ?_|(refine AQ 133 ?_);refine Ad ?_;refine BQ (f:=120) rfl rfl Tryz.call120 (Cs _ _) ?_;rintro e w ⟨rfl,hE⟩;replace hS:=hS.ext hE;clear hE;refine Ab ?_;go_step|go_big_skip|refine X0 ?_|refine Kl ?_|refine X9 93 ?_ ?_<;>intro hB<;>(try exact AS)<;>go_step|refine X9 100 ?_ ?_<;>intro hB<;>(try exact AS)<;>go_step|refine LP 105 ?_ ?_<;>intro hB<;>(try exact AS)<;>go_step|refine FT 110 ?_ ?_<;>intro hB<;>(try exact AS)<;>go_step|refine LP 115 ?_ ?_<;>intro hB<;>(try exact AS)<;>go_step|refine I0 120 ?_ ?_<;>intro hB<;>(try exact AS)<;>go_step|refine X9 124 ?_ ?_<;>intro hB<;>(try exact AS)<;>go_step|refine Jy 95 ?_|refine GH 97 ?_|refine Jy 103 ?_|refine GH 108 ?_|refine GH 113 ?_|refine Jy 118 ?_|refine GH 122 ?_|refine GH 127 ?_|refine Gq 129 ?_|refine X3 134 ?_|refine X3 135 ?_|refine X3 136 ?_|refine E6 ?_|refine Ft ?_;clear hS;intro w hS|refine AG ?_;go_step|fail)
     all_goals (try exact AS)
     all_goals
      refine AO (xs:=[_,_,_]) rfl (.cons (AC.arr hS rfl (AN (n:=64) rfl) AM) (.cons (AC.tmp rfl) (.cons (AC.tmp rfl) (.nil)))) (by simp) rfl ?_
      exact DZ 4 HF2.out hS AV
    case neg=>
     have hr2:u0<0∨255<u0:=by omega
     clear hor2 hr
     repeat' (first
      | (refine AQ 69 ?_);refine Ad ?_;refine CO rfl (.iface Z.tid Z.ptr) rfl [.bool false] rfl Z.f #[Z.ptr, .bool false] (Z.inv false) (Z.call _ _ _ s false _ _ _ _ _ hS AM HN2.out) ?_;clear hS;rintro e w ⟨rfl,hS⟩;refine Ab ?_;go_step|refine X0 ?_|refine X4 66 ?_|refine X3 70 ?_|refine X3 71 ?_|refine KA 14 ?_;clear hS;intro g14 w hS|refine Jw ?_;clear hS;intro w hS|refine AG ?_;go_step|fail)
     all_goals (try exact AS)
     repeat' (first
      | (refine AQ 89 ?_);refine AL (f:=121) Tryz.call121 AA ?_;refine ⟨_,(DS u1 u2 _ hB2),?_⟩;rintro e w' ⟨rfl,rfl⟩;rw [HNb.out];refine Ab ?_;go_step|refine X0 ?_|refine Gq 73 ?_|refine Jy 85 ?_|refine e7 87 ?_|refine X3 90 ?_|refine X3 91 ?_|refine T5 ?_|refine T3 82 ?_;clear hS;intro g82 w hS|refine YD 83 ?_;clear hS;intro ad83 c83 w hS|refine E6 ?_|refine AG ?_;go_step|fail)
     all_goals (try exact AS)
     repeat' (first
      | (refine AQ 133 ?_);refine Ad ?_;refine BQ (f:=120) rfl rfl Tryz.call120 (Cs _ _) ?_;rintro e w ⟨rfl,hE⟩;replace hS:=hS.ext hE;clear hE;refine Ab ?_;go_step|go_big_skip|refine X0 ?_|refine Kl ?_|refine X9 93 ?_ ?_<;>intro hB<;>(try exact AS)<;>go_step|refine X9 100 ?_ ?_<;>intro hB<;>(try exact AS)<;>go_step|refine LP 105 ?_ ?_<;>intro hB<;>(try exact AS)<;>go_step|refine FT 110 ?_ ?_<;>intro hB<;>(try exact AS)<;>go_step|refine LP 115 ?_ ?_<;>intro hB<;>(try exact AS)<;>go_step|refine Jy 95 ?_|refine GH 97 ?_|(refine AQ 99 ?_);(refine Aq AA (V.and rfl rfl) ?_;go_step)|refine Jy 103 ?_|refine GH 108 ?_|refine GH 113 ?_|refine X3 134 ?_|refine X3 135 ?_|refine X3 136 ?_|refine E6 ?_|refine Ft ?_;clear hS;intro w hS|refine AG ?_;go_step|fail)
     all_goals (try exact AS)
     all_goals
      refine AO (xs:=[_,_,_]) rfl (.cons (AC.arr hS rfl (AN (n:=64) rfl) AM) (.cons (AC.tmp rfl) (.cons (AC.tmp rfl) (.nil)))) (by simp) rfl ?_
      exact DZ 4 HF2.out hS AV
   case false=>
    rw [if_neg (by simp)] at hlo
    have hgood:RK u1 u2=true∧u1≤11∧0≤u0∧u0≤255∧u1=u0%16∧(u1≠0∨u0=0∨u0=240):=by
     by_cases hB2:RK u1 u2=true
     ·refine ⟨hB2,?_⟩
      have hno:¬(11<u1∨u0<0∨255<u0∨u1≠u0%16∨(u1=0∧u0≠0∧u0≠240)):=fun h=>by have:=hiff.2 (.inr h);cases this
      omega
     have:=hiff.2 (.inl (by simpa using hB2));cases this
    obtain ⟨hB2,g1,g2,g3,g4,g5⟩:=hgood
    have HAnd:=AD (YL u0 ⟨g2,g3⟩)
    obtain ⟨nb1,nb2,nb3⟩:=Lb u0 u1 u2 hB2
    have nb4:=nb3 g1
    obtain ⟨n2,hn2⟩:∃x,Df (u0,u1,u2)=x:=⟨_,rfl⟩
    rw [hn2] at nb4 hlo
    have HNb:Hid (Eb u1.toNat u2.toNat=n2):=AD hn2
    clear hiff hbd hn2 nb1 nb2 nb3
    by_cases hend:u0=0
    case pos=>
     rw [if_pos hend] at hlo
     have HLo2:=AD hlo
     have HAl2:Hid ((all++[(u0,u1,u2)]).length=m+1):=AD (by rw [List.length_append,HAl.out];rfl)
     clear hlo HAl
     obtain ⟨al2,hal2⟩:∃x,all++[(u0,u1,u2)]=x:=⟨_,rfl⟩
     rw [hal2] at HLo2 HAl2 HFl
     clear hal2
     obtain ⟨zf,hzf⟩:∃x,CW bl=x:=⟨_,rfl⟩
     have hzl:Ae zf 64:=by rw [←hzf];exact EP bl
     have HZf:L5 (CW bl=zf):=⟨hzf⟩
     clear hzf
     repeat' (first
      | (refine AQ 69 ?_);refine Ad ?_;refine CO rfl (.iface Z.tid Z.ptr) rfl [.bool false] rfl Z.f #[Z.ptr, .bool false] (Z.inv false) (Z.call _ _ _ s false _ _ _ _ _ hS AM HN2.out) ?_;clear hS;rintro e w ⟨rfl,hS⟩;refine Ab ?_;go_step|refine X0 ?_|refine X4 66 ?_|refine X3 70 ?_|refine X3 71 ?_|refine KA 14 ?_;clear hS;intro g14 w hS|refine Jw ?_;clear hS;intro w hS|refine AG ?_;go_step|fail)
     all_goals (try exact AS)
     repeat' (first
      | (refine AQ 89 ?_);refine AL (f:=121) Tryz.call121 AA ?_;refine ⟨_,(DS u1 u2 _ hB2),?_⟩;rintro e w' ⟨rfl,rfl⟩;rw [HNb.out];refine Ab ?_;go_step|refine X0 ?_|refine Gq 73 ?_|refine Jy 85 ?_|refine e7 87 ?_|refine X3 90 ?_|refine X3 91 ?_|refine T5 ?_|refine T3 82 ?_;clear hS;intro g82 w hS|refine YD 83 ?_;clear hS;intro ad83 c83 w hS|refine E6 ?_|refine AG ?_;go_step|fail)
     all_goals (try exact AS)
     repeat' (first
      | refine Vm 99 ?_|go_big_skip|refine X1 ?_|refine Kl ?_|refine X9 93 ?_ ?_<;>intro hB<;>(try exact AS)<;>go_step|refine X9 100 ?_ ?_<;>intro hB<;>(try exact AS)<;>go_step|refine LP 105 ?_ ?_<;>intro hB<;>(try exact AS)<;>go_step|refine FT 110 ?_ ?_<;>intro hB<;>(try exact AS)<;>go_step|refine LP 115 ?_ ?_<;>intro hB<;>(try exact AS)<;>go_step|refine I0 120 ?_ ?_<;>intro hB<;>(try exact AS)<;>go_step|refine X9 124 ?_ ?_<;>intro hB<;>(try exact AS)<;>go_step|refine Jy 95 ?_|refine GH 97 ?_|refine Jy 103 ?_|refine GH 108 ?_|refine GH 113 ?_|refine Jy 118 ?_|refine GH 122 ?_|refine E6 ?_|refine AG ?_;go_step|fail)
     all_goals (try exact AS)
     repeat' (first
      | refine GH 137 ?_|refine LQ 139 ?_|refine E6 ?_|refine AG ?_;go_step|fail)
     all_goals (try exact AS)
     repeat' (first
      | (refine Am 67 ?_);refine An AA Tryz.call67 (Kg _ bl hbl.out) ?_;rintro e w ⟨rfl,hE⟩;rw [HZf.out];replace hS:=hS.ext hE;clear hE;refine Ab ?_;go_step|refine X1 ?_|refine Hp ?_|refine Ft ?_;clear hS;intro w hS|refine AG ?_;go_step|fail)
     all_goals (try exact AS)
     rw [←HFl.out] at hS
     have hzb:∀i,i<64→ -2047≤AF zf i∧AF zf i≤2047:=fun i hi=>by
      rw [←HZf.out];exact Na bl HBl.out i hi
     have HZb:=AD hzb
     obtain ⟨T,hT⟩:∃T,Ba before bl=T:=⟨_,rfl⟩
     have HTz:L5 (Ba before (Ez zf)=T):=⟨by rw [←HZf.out,Kh bl hbl.out,hT]⟩
     obtain ⟨NT,hNT⟩:∃N,T.length=N:=⟨_,rfl⟩
     have hNT64:NT≤64:=by rw [←hNT,←hT];exact (NM before bl hbl.out).2
     have HTl:=AD hNT
     have HRT:L5 (D5 Z.next before s0=if T=al2 then (0,zf,al2,s2) else (4,Bi,[],s2)):=⟨by
      rw [HF.out,←HLo2.out]
      dsimp only
      rw [if_neg (by simp),hT,HZf.out]⟩
     clear hzb hT hNT
     by_cases hEq:T=al2
     case pos=>
      have HD:=AD (show decide (FR T=FR al2)=true from decide_eq_true (by rw [hEq]))
      have HRF:L5 (D5 Z.next before s0=(0,zf,al2,s2)):=⟨by rw [HRT.out,if_pos hEq]⟩
      clear hEq
      repeat' (first
       | (refine AQ 168 ?_);refine AL (f:=124) Tryz.call124 AA ?_;refine ⟨_,(FL _ before zf hzl hb HZb.out),?_⟩;rintro e w ⟨a5,c5,rfl,hS2⟩;rw [HTz.out,HTl.out] at hS2;rw [HTz.out,HTl.out];replace hS:=hS.call1 hS2;clear hS2;refine Ab ?_;go_step|(refine AQ 170 ?_);refine AL (f:=123) Tryz.call123 AA ?_;refine ⟨_,(Ff _ a5 ad83 NT c5 (m+1) c83 (FR T) (FR al2) (hS.sl (a:=a5) AM) (hS.sl (a:=ad83) AM) (by omega) (by omega)),?_⟩;rintro e w ⟨he,hE⟩;rw [HD.out] at he;subst he;replace hS:=hS.ext hE;clear hE;refine Ab ?_;go_step|refine X0 ?_|refine T7 171 ?_|refine Hp ?_|refine Ft ?_;clear hS;intro w hS|refine AG ?_;go_step|fail)
      all_goals (try exact AS)
      refine AO (xs:=[_,_,_]) rfl (.cons (AC.arr hS rfl (AN (n:=64) rfl) AM) (.cons (AC.tmp rfl) (.cons (AC.tmp rfl) (.nil)))) (by simp) rfl ?_
      refine ⟨ad83,c83,?_,?_⟩
      ·rw [HRF.out];dsimp only;rw [HAl2.out];first|done|rfl
      rw [HRF.out];dsimp only;rw [HAl2.out];exact hS.sub AV
     case neg=>
      have HD:=AD (show decide (FR T=FR al2)=false from decide_eq_false (fun h=>hEq (PG h)))
      have HRF:D5 Z.next before s0=(4,Bi,[],s2):=by rw [HRT.out,if_neg hEq]
      have HRF2:L5 (D5 Z.next before s0=(4,Bi,[],s2)):=⟨HRF⟩
      clear hEq HRF
      repeat' (first
       | (refine AQ 168 ?_);refine AL (f:=124) Tryz.call124 AA ?_;refine ⟨_,(FL _ before zf hzl hb HZb.out),?_⟩;rintro e w ⟨a5,c5,rfl,hS2⟩;rw [HTz.out,HTl.out] at hS2;rw [HTz.out,HTl.out];replace hS:=hS.call1 hS2;clear hS2;refine Ab ?_;go_step|(refine AQ 170 ?_);refine AL (f:=123) Tryz.call123 AA ?_;refine ⟨_,(Ff _ a5 ad83 NT c5 (m+1) c83 (FR T) (FR al2) (hS.sl (a:=a5) AM) (hS.sl (a:=ad83) AM) (by omega) (by omega)),?_⟩;rintro e w ⟨he,hE⟩;rw [HD.out] at he;subst he;replace hS:=hS.ext hE;clear hE;refine Ab ?_;go_step|(refine AQ 173 ?_);refine Ad ?_;refine BQ (f:=120) rfl rfl Tryz.call120 (Cs _ _) ?_;rintro e w ⟨rfl,hE⟩;replace hS:=hS.ext hE;clear hE;refine Ab ?_;go_step|refine X0 ?_|refine T7 171 ?_|refine X3 174 ?_|refine X3 175 ?_|refine X3 176 ?_|refine Ft ?_;clear hS;intro w hS|refine AG ?_;go_step|fail)
      all_goals (try exact AS)
      refine AO (xs:=[_,_,_]) rfl (.cons (AC.arr hS rfl (AN (n:=64) rfl) AM) (.cons (AC.tmp rfl) (.cons (AC.tmp rfl) (.nil)))) (by simp) rfl ?_
      exact DZ 4 HRF2.out hS AV
    case neg=>
     rw [if_neg hend] at hlo
     by_cases hlong:u0=240
     case pos=>
      rw [if_pos hlong] at hlo
      by_cases hov:64<at_+16
      case pos=>
       rw [if_pos hov] at hlo
       have HF2:Hid (D5 Z.next before s0=(4,Bi,[],s2)):=AD (by rw [HF.out,←hlo];exact if_pos (show (4:Int)≠0 by decide))
       clear hlo
       repeat' (first
        | (refine AQ 69 ?_);refine Ad ?_;refine CO rfl (.iface Z.tid Z.ptr) rfl [.bool false] rfl Z.f #[Z.ptr, .bool false] (Z.inv false) (Z.call _ _ _ s false _ _ _ _ _ hS AM HN2.out) ?_;clear hS;rintro e w ⟨rfl,hS⟩;refine Ab ?_;go_step|refine X0 ?_|refine X4 66 ?_|refine X3 70 ?_|refine X3 71 ?_|refine KA 14 ?_;clear hS;intro g14 w hS|refine Jw ?_;clear hS;intro w hS|refine AG ?_;go_step|fail)
       all_goals (try exact AS)
       repeat' (first
        | (refine AQ 89 ?_);refine AL (f:=121) Tryz.call121 AA ?_;refine ⟨_,(DS u1 u2 _ hB2),?_⟩;rintro e w' ⟨rfl,rfl⟩;rw [HNb.out];refine Ab ?_;go_step|refine X0 ?_|refine Gq 73 ?_|refine Jy 85 ?_|refine e7 87 ?_|refine X3 90 ?_|refine X3 91 ?_|refine T5 ?_|refine T3 82 ?_;clear hS;intro g82 w hS|refine YD 83 ?_;clear hS;intro ad83 c83 w hS|refine E6 ?_|refine AG ?_;go_step|fail)
       all_goals (try exact AS)
       repeat' (first
        | refine Vm 99 ?_|refine X1 ?_|refine Kl ?_|refine X9 93 ?_ ?_<;>intro hB<;>(try exact AS)<;>go_step|refine X9 100 ?_ ?_<;>intro hB<;>(try exact AS)<;>go_step|refine LP 105 ?_ ?_<;>intro hB<;>(try exact AS)<;>go_step|refine FT 110 ?_ ?_<;>intro hB<;>(try exact AS)<;>go_step|refine LP 115 ?_ ?_<;>intro hB<;>(try exact AS)<;>go_step|refine I0 120 ?_ ?_<;>intro hB<;>(try exact AS)<;>go_step|refine X9 124 ?_ ?_<;>intro hB<;>(try exact AS)<;>go_step|refine Jy 95 ?_|refine GH 97 ?_|refine Jy 103 ?_|refine GH 108 ?_|refine GH 113 ?_|refine Jy 118 ?_|refine GH 122 ?_|refine GH 127 ?_|refine Gq 129 ?_|refine E6 ?_|refine AG ?_;go_step|fail)
       all_goals (try exact AS)
       repeat' (first
        | (refine AQ 160 ?_);refine Ad ?_;refine BQ (f:=120) rfl rfl Tryz.call120 (Cs _ _) ?_;rintro e w ⟨rfl,hE⟩;replace hS:=hS.ext hE;clear hE;refine Ab ?_;go_step|refine X0 ?_|refine GH 137 ?_|refine LQ 139 ?_|refine GH 140 ?_|refine LQ 142 ?_|refine Ns 144 ?_|refine L9 158 ?_|refine X3 161 ?_|refine X3 162 ?_|refine X3 163 ?_|refine E6 ?_|refine Ft ?_;clear hS;intro w hS|refine AG ?_;go_step|fail)
       all_goals (try exact AS)
       all_goals
        refine AO (xs:=[_,_,_]) rfl (.cons (AC.arr hS rfl (AN (n:=64) rfl) AM) (.cons (AC.tmp rfl) (.cons (AC.tmp rfl) (.nil)))) (by simp) rfl ?_
        exact DZ 4 HF2.out hS AV
      case neg=>
       rw [if_neg hov] at hlo
       have HLo2:=AD hlo
       clear hlo
       repeat' (first
        | (refine AQ 69 ?_);refine Ad ?_;refine CO rfl (.iface Z.tid Z.ptr) rfl [.bool false] rfl Z.f #[Z.ptr, .bool false] (Z.inv false) (Z.call _ _ _ s false _ _ _ _ _ hS AM HN2.out) ?_;clear hS;rintro e w ⟨rfl,hS⟩;refine Ab ?_;go_step|refine X0 ?_|refine X4 66 ?_|refine X3 70 ?_|refine X3 71 ?_|refine KA 14 ?_;clear hS;intro g14 w hS|refine Jw ?_;clear hS;intro w hS|refine AG ?_;go_step|fail)
       all_goals (try exact AS)
       repeat' (first
        | (refine AQ 89 ?_);refine AL (f:=121) Tryz.call121 AA ?_;refine ⟨_,(DS u1 u2 _ hB2),?_⟩;rintro e w' ⟨rfl,rfl⟩;rw [HNb.out];refine Ab ?_;go_step|refine X0 ?_|refine Gq 73 ?_|refine Jy 85 ?_|refine e7 87 ?_|refine X3 90 ?_|refine X3 91 ?_|refine T5 ?_|refine T3 82 ?_;clear hS;intro g82 w hS|refine YD 83 ?_;clear hS;intro ad83 c83 w hS|refine E6 ?_|refine AG ?_;go_step|fail)
       all_goals (try exact AS)
       repeat' (first
        | refine Vm 99 ?_|refine X1 ?_|refine Kl ?_|refine X9 93 ?_ ?_<;>intro hB<;>(try exact AS)<;>go_step|refine X9 100 ?_ ?_<;>intro hB<;>(try exact AS)<;>go_step|refine LP 105 ?_ ?_<;>intro hB<;>(try exact AS)<;>go_step|refine FT 110 ?_ ?_<;>intro hB<;>(try exact AS)<;>go_step|refine LP 115 ?_ ?_<;>intro hB<;>(try exact AS)<;>go_step|refine I0 120 ?_ ?_<;>intro hB<;>(try exact AS)<;>go_step|refine X9 124 ?_ ?_<;>intro hB<;>(try exact AS)<;>go_step|refine Jy 95 ?_|refine GH 97 ?_|refine Jy 103 ?_|refine GH 108 ?_|refine GH 113 ?_|refine Jy 118 ?_|refine GH 122 ?_|refine GH 127 ?_|refine Gq 129 ?_|refine E6 ?_|refine AG ?_;go_step|fail)
       all_goals (try exact AS)
       repeat' (first
        | refine X0 ?_|refine GH 137 ?_|refine LQ 139 ?_|refine GH 140 ?_|refine LQ 142 ?_|refine Ns 144 ?_|refine L9 158 ?_|refine E6 ?_|refine AG ?_;go_step|fail)
       all_goals (try exact AS)
       go_roundg gk'
       case measure=>omega
       case rel=>exact ⟨at_+16,m+1,bl,all++[(u0,u1,u2)],ad83,c83,s2,by omega,by omega,by omega,by omega,by go_num,rfl,AD (by rw [List.length_append,HAl.out];rfl),hbl,HBl,HLo2,(by rw [HFl.out];exact hS.sub AV)⟩
     case neg=>
      rw [if_neg hlong] at hlo
      obtain ⟨r,hr⟩:∃r:Nat,u0/16=(r:Int):=⟨(u0/16).toNat,by omega⟩
      have hr2:u0.toNat/16=r:=by omega
      have hr15:r≤15:=by omega
      rw [hr2] at hlo
      have HR4:Hid (u0/2^4=(r:Int)):=AD (by rw [show (2:Int)^4=16 from rfl];exact hr)
      clear hr hr2
      by_cases hov:64≤at_+r
      case pos=>
       rw [if_pos hov] at hlo
       have HF2:Hid (D5 Z.next before s0=(4,Bi,[],s2)):=AD (by rw [HF.out,←hlo];exact if_pos (show (4:Int)≠0 by decide))
       clear hlo
       repeat' (first
        | (refine AQ 69 ?_);refine Ad ?_;refine CO rfl (.iface Z.tid Z.ptr) rfl [.bool false] rfl Z.f #[Z.ptr, .bool false] (Z.inv false) (Z.call _ _ _ s false _ _ _ _ _ hS AM HN2.out) ?_;clear hS;rintro e w ⟨rfl,hS⟩;refine Ab ?_;go_step|refine X0 ?_|refine X4 66 ?_|refine X3 70 ?_|refine X3 71 ?_|refine KA 14 ?_;clear hS;intro g14 w hS|refine Jw ?_;clear hS;intro w hS|refine AG ?_;go_step|fail)
       all_goals (try exact AS)
       repeat' (first
        | (refine AQ 89 ?_);refine AL (f:=121) Tryz.call121 AA ?_;refine ⟨_,(DS u1 u2 _ hB2),?_⟩;rintro e w' ⟨rfl,rfl⟩;rw [HNb.out];refine Ab ?_;go_step|refine X0 ?_|refine Gq 73 ?_|refine Jy 85 ?_|refine e7 87 ?_|refine X3 90 ?_|refine X3 91 ?_|refine T5 ?_|refine T3 82 ?_;clear hS;intro g82 w hS|refine YD 83 ?_;clear hS;intro ad83 c83 w hS|refine E6 ?_|refine AG ?_;go_step|fail)
       all_goals (try exact AS)
       repeat' (first
        | refine Vm 99 ?_|go_big_skip|refine X1 ?_|refine Gj ?_|refine X9 93 ?_ ?_<;>intro hB<;>(try exact AS)<;>go_step|refine X9 100 ?_ ?_<;>intro hB<;>(try exact AS)<;>go_step|refine LP 105 ?_ ?_<;>intro hB<;>(try exact AS)<;>go_step|refine FT 110 ?_ ?_<;>intro hB<;>(try exact AS)<;>go_step|refine LP 115 ?_ ?_<;>intro hB<;>(try exact AS)<;>go_step|refine I0 120 ?_ ?_<;>intro hB<;>(try exact AS)<;>go_step|refine Jy 95 ?_|refine GH 97 ?_|refine Jy 103 ?_|refine GH 108 ?_|refine GH 113 ?_|refine Jy 118 ?_|refine E6 ?_|refine AG ?_;go_step|fail)
       all_goals (try exact AS)
       repeat' (first
        | (refine AQ 148 ?_);(refine Af (.int _ (((r:Nat):Int))) (V.as (V.shr rfl rfl BJ (by omega) rfl) (by exact HR4.out)) (by kernel_rfl) ?_;go_step)|(refine AQ 160 ?_);refine Ad ?_;refine BQ (f:=120) rfl rfl Tryz.call120 (Cs _ _) ?_;rintro e w ⟨rfl,hE⟩;replace hS:=hS.ext hE;clear hE;refine Ab ?_;go_step|refine X0 ?_|refine GH 137 ?_|refine LQ 139 ?_|refine GH 140 ?_|refine LQ 142 ?_|refine GH 146 ?_|refine Ns 149 ?_|refine X4 151 ?_|refine Ns 156 ?_|refine L9 158 ?_|refine X3 161 ?_|refine X3 162 ?_|refine X3 163 ?_|refine E6 ?_|refine Ft ?_;clear hS;intro w hS|refine AG ?_;go_step|fail)
       all_goals (try exact AS)
       all_goals
        refine AO (xs:=[_,_,_]) rfl (.cons (AC.arr hS rfl (AN (n:=64) rfl) AM) (.cons (AC.tmp rfl) (.cons (AC.tmp rfl) (.nil)))) (by simp) rfl ?_
        exact DZ 4 HF2.out hS AV
      case neg=>
       rw [if_neg hov] at hlo
       have HLo2:=AD hlo
       have HBl2:Hid (∀i,i<64→ -2047≤AF (bl.set (at_+r) n2) i∧AF (bl.set (at_+r) n2) i≤2047):=AD fun i hi=>by
        rw [Bj _ _ _ _ (by rw [hbl.out];omega)]
        split
        ·omega
        exact HBl.out i hi
       have hbl2:Ae (bl.set (at_+r) n2) 64:=Ae.set hbl
       clear hlo
       repeat' (first
        | (refine AQ 69 ?_);refine Ad ?_;refine CO rfl (.iface Z.tid Z.ptr) rfl [.bool false] rfl Z.f #[Z.ptr, .bool false] (Z.inv false) (Z.call _ _ _ s false _ _ _ _ _ hS AM HN2.out) ?_;clear hS;rintro e w ⟨rfl,hS⟩;refine Ab ?_;go_step|refine X0 ?_|refine X4 66 ?_|refine X3 70 ?_|refine X3 71 ?_|refine KA 14 ?_;clear hS;intro g14 w hS|refine Jw ?_;clear hS;intro w hS|refine AG ?_;go_step|fail)
       all_goals (try exact AS)
       repeat' (first
        | (refine AQ 89 ?_);refine AL (f:=121) Tryz.call121 AA ?_;refine ⟨_,(DS u1 u2 _ hB2),?_⟩;rintro e w' ⟨rfl,rfl⟩;rw [HNb.out];refine Ab ?_;go_step|refine X0 ?_|refine Gq 73 ?_|refine Jy 85 ?_|refine e7 87 ?_|refine X3 90 ?_|refine X3 91 ?_|refine T5 ?_|refine T3 82 ?_;clear hS;intro g82 w hS|refine YD 83 ?_;clear hS;intro ad83 c83 w hS|refine E6 ?_|refine AG ?_;go_step|fail)
       all_goals (try exact AS)
       repeat' (first
        | refine Vm 99 ?_|go_big_skip|refine X1 ?_|refine Gj ?_|refine X9 93 ?_ ?_<;>intro hB<;>(try exact AS)<;>go_step|refine X9 100 ?_ ?_<;>intro hB<;>(try exact AS)<;>go_step|refine LP 105 ?_ ?_<;>intro hB<;>(try exact AS)<;>go_step|refine FT 110 ?_ ?_<;>intro hB<;>(try exact AS)<;>go_step|refine LP 115 ?_ ?_<;>intro hB<;>(try exact AS)<;>go_step|refine I0 120 ?_ ?_<;>intro hB<;>(try exact AS)<;>go_step|refine Jy 95 ?_|refine GH 97 ?_|refine Jy 103 ?_|refine GH 108 ?_|refine GH 113 ?_|refine Jy 118 ?_|refine E6 ?_|refine AG ?_;go_step|fail)
       all_goals (try exact AS)
       repeat' (first
        | (refine AQ 148 ?_);(refine Af (.int _ (((r:Nat):Int))) (V.as (V.shr rfl rfl BJ (by omega) rfl) (by exact HR4.out)) (by kernel_rfl) ?_;go_step)|refine X0 ?_|refine GH 137 ?_|refine LQ 139 ?_|refine GH 140 ?_|refine LQ 142 ?_|refine GH 146 ?_|refine Ns 149 ?_|refine X4 151 ?_|refine Vq 154 ?_|refine Ns 156 ?_|refine L9 158 ?_|refine E6 ?_|refine Xm ?_;clear hS;intro w hS|refine AG ?_;go_step|fail)
       all_goals (try exact AS)
       go_roundg gk'
       case measure=>omega
       case rel=>exact ⟨at_+r+1,m+1,bl.set (at_+r) n2,all++[(u0,u1,u2)],ad83,c83,s2,by omega,by omega,by omega,by omega,by go_num,rfl,AD (by rw [List.length_append,HAl.out];rfl),hbl2,HBl2,HLo2,(by rw [HFl.out];exact hS.sub AV)⟩
  have hlo:=HLo.out
  have hR0:R=(0,bl,all,s):=by
   cases gk with
   | zero=>rw [←hlo,BO]
   | succ g=>rw [←hlo,BO,if_pos (by omega)]
  have HLo2:Hid ((0,bl,all,s)=R):=AD hR0.symm
  have HAl2:Hid (all.length=m):=HAl
  clear hlo hR0 HLo
  obtain ⟨zf,hzf⟩:∃x,CW bl=x:=⟨_,rfl⟩
  have hzl:Ae zf 64:=by rw [←hzf];exact EP bl
  have HZf:L5 (CW bl=zf):=⟨hzf⟩
  clear hzf
  repeat' (first
   | refine X1 ?_|refine X4 66 ?_|refine AG ?_;go_step|fail)
  all_goals (try exact AS)
  repeat' (first
   | (refine Am 67 ?_);refine An AA Tryz.call67 (Kg _ bl hbl.out) ?_;rintro e w ⟨rfl,hE⟩;rw [HZf.out];replace hS:=hS.ext hE;clear hE;refine Ab ?_;go_step|refine X1 ?_|refine Hp ?_|refine Ft ?_;clear hS;intro w hS|refine AG ?_;go_step|fail)
  have hzb:∀i,i<64→ -2047≤AF zf i∧AF zf i≤2047:=fun i hi=>by
   rw [←HZf.out];exact Na bl HBl.out i hi
  have HZb:=AD hzb
  obtain ⟨T,hT⟩:∃T,Ba before bl=T:=⟨_,rfl⟩
  have HTz:L5 (Ba before (Ez zf)=T):=⟨by rw [←HZf.out,Kh bl hbl.out,hT]⟩
  obtain ⟨NT,hNT⟩:∃N,T.length=N:=⟨_,rfl⟩
  have hNT64:NT≤64:=by rw [←hNT,←hT];exact (NM before bl hbl.out).2
  have HTl:=AD hNT
  have HRT:L5 (D5 Z.next before s0=if T=all then (0,zf,all,s) else (4,Bi,[],s)):=⟨by
   rw [HF.out,←HLo2.out]
   dsimp only
   rw [if_neg (by simp),hT,HZf.out]⟩
  clear hzb hT hNT
  by_cases hEq:T=all
  case pos=>
   have HD:=AD (show decide (FR T=FR all)=true from decide_eq_true (by rw [hEq]))
   have HRF:L5 (D5 Z.next before s0=(0,zf,all,s)):=⟨by rw [HRT.out,if_pos hEq]⟩
   clear hEq
   repeat' (first
    | (refine AQ 168 ?_);refine AL (f:=124) Tryz.call124 AA ?_;refine ⟨_,(FL _ before zf hzl hb HZb.out),?_⟩;rintro e w ⟨a5,c5,rfl,hS2⟩;rw [HTz.out,HTl.out] at hS2;rw [HTz.out,HTl.out];replace hS:=hS.call1 hS2;clear hS2;refine Ab ?_;go_step|(refine AQ 170 ?_);refine AL (f:=123) Tryz.call123 AA ?_;refine ⟨_,(Ff _ a5 a' NT c5 (m) c' (FR T) (FR all) (hS.sl (a:=a5) AM) (hS.sl (a:=a') AM) (by omega) (by omega)),?_⟩;rintro e w ⟨he,hE⟩;rw [HD.out] at he;subst he;replace hS:=hS.ext hE;clear hE;refine Ab ?_;go_step|refine X0 ?_|refine T7 171 ?_|refine Hp ?_|refine Ft ?_;clear hS;intro w hS|refine AG ?_;go_step|fail)
   all_goals (try exact AS)
   refine AO (xs:=[_,_,_]) rfl (.cons (AC.arr hS rfl (AN (n:=64) rfl) AM) (.cons (AC.tmp rfl) (.cons (AC.tmp rfl) (.nil)))) (by simp) rfl ?_
   refine ⟨a',c',?_,?_⟩
   ·rw [HRF.out];dsimp only;rw [HAl2.out];first|done|rfl
   rw [HRF.out];dsimp only;rw [HAl2.out];exact hS.sub AV
  case neg=>
   have HD:=AD (show decide (FR T=FR all)=false from decide_eq_false (fun h=>hEq (PG h)))
   have HRF:D5 Z.next before s0=(4,Bi,[],s):=by rw [HRT.out,if_neg hEq]
   have HRF2:L5 (D5 Z.next before s0=(4,Bi,[],s)):=⟨HRF⟩
   clear hEq HRF
   repeat' (first
    | (refine AQ 168 ?_);refine AL (f:=124) Tryz.call124 AA ?_;refine ⟨_,(FL _ before zf hzl hb HZb.out),?_⟩;rintro e w ⟨a5,c5,rfl,hS2⟩;rw [HTz.out,HTl.out] at hS2;rw [HTz.out,HTl.out];replace hS:=hS.call1 hS2;clear hS2;refine Ab ?_;go_step|(refine AQ 170 ?_);refine AL (f:=123) Tryz.call123 AA ?_;refine ⟨_,(Ff _ a5 a' NT c5 (m) c' (FR T) (FR all) (hS.sl (a:=a5) AM) (hS.sl (a:=a') AM) (by omega) (by omega)),?_⟩;rintro e w ⟨he,hE⟩;rw [HD.out] at he;subst he;replace hS:=hS.ext hE;clear hE;refine Ab ?_;go_step|(refine AQ 173 ?_);refine Ad ?_;refine BQ (f:=120) rfl rfl Tryz.call120 (Cs _ _) ?_;rintro e w ⟨rfl,hE⟩;replace hS:=hS.ext hE;clear hE;refine Ab ?_;go_step|refine X0 ?_|refine T7 171 ?_|refine X3 174 ?_|refine X3 175 ?_|refine X3 176 ?_|refine Ft ?_;clear hS;intro w hS|refine AG ?_;go_step|fail)
   all_goals (try exact AS)
   refine AO (xs:=[_,_,_]) rfl (.cons (AC.arr hS rfl (AN (n:=64) rfl) AM) (.cons (AC.tmp rfl) (.cons (AC.tmp rfl) (.nil)))) (by simp) rfl ?_
   exact DZ 4 HRF2.out hS AV
end Go.Proofs.YtohacgmhmbijmaaGreatDoor
