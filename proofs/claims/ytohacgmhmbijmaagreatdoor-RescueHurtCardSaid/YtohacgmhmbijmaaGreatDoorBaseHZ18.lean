/- What the laws RescueHurt need, part 18. -/
import Derived.Test.YtohacgmhmbijmaaGreatDoorBaseHZ2
import Derived.Test.YtohacgmhmbijmaaGreatDoorBaseHZ3
import Derived.Test.YtohacgmhmbijmaaGreatDoorBaseHZ4
import Derived.Test.YtohacgmhmbijmaaGreatDoorBaseHZ5
import Derived.Test.YtohacgmhmbijmaaGreatDoorBaseHZ6
import Derived.Test.YtohacgmhmbijmaaGreatDoorBaseHZ7
import Derived.Test.YtohacgmhmbijmaaGreatDoorBaseHZ11
import Derived.Test.YtohacgmhmbijmaaGreatDoorBaseHZ16
import Derived.Test.YtohacgmhmbijmaaGreatDoorBaseHZ17
import Derived.Test.YtohacgmhmbijmaaGreatDoorProg
namespace Go.Proofs.YtohacgmhmbijmaaGreatDoor
attribute [local irreducible] Region.wanted
open Go.RowKit
set_option linter.unusedVariables false
set_option maxRecDepth 100000
set_option maxHeartbeats 8000000
theorem Of(w0:World)(a b:Option Addr)(c d:Nat)(R R2:List Rw)(hP:BU w0 a c R)(hQ:BU w0 b d R2)(hR:R.length≤9223372036854775807)(h:R.map (·.xs)=R2.map (·.xs)):
 Calls Tryz.prog 55 #[.slice a R.length c, .slice b R2.length d] w0 fun e w=>e= .returned (.bool true)∧Ai w0 w:=by
 have hS:=St.start w0
 have HP:Hid (BU w0 a c R):=hP
 have HQ:Hid (BU w0 b d R2):=hQ
 have HH:=AD h
 have hl2:R2.length=R.length:=by have:=congrArg List.length h;simpa using this.symm
 obtain ⟨N,hN⟩:∃N,R.length=N:=⟨_,rfl⟩
 rw [hN] at hl2 hR⊢
 rw [hl2]
 have HN:=AD hN
 have HN2:=AD hl2
 have hs1:=hP.sl
 have hs2:=hQ.sl
 rw [hN] at hs1
 rw [hl2] at hs2
 clear hP hQ h hl2 hN
 go_enter Tryz.func55,Tryz.ntmps55
 repeat' (first
  | refine X0 ?_|refine Zn ?_|refine Ju ?_|refine AG ?_;go_step|fail)
 all_goals (try exact AR)
 go_loopg [13] N (fun gk kv w=>∃k:Nat,gk+k=N∧kv= .int .i64 k∧St w0 w [])
 case atStart=>exact ⟨0,rfl,rfl,hS.sub AV⟩
 case round=>
  clear hS
  obtain ⟨k,hk,rfl,hS⟩:=hrel
  by_cases hlt:k<N
  ·obtain ⟨r,hr⟩:∃r,R[k]? =some r:=⟨_,List.getElem?_eq_getElem (by rw [HN.out];exact hlt)⟩
   obtain ⟨s,hs⟩:∃s,R2[k]? =some s:=⟨_,List.getElem?_eq_getElem (by rw [HN2.out];exact hlt)⟩
   obtain ⟨hg0,hrs,hrl⟩:=HP.out.at hr
   obtain ⟨hg1,hss,hsl⟩:=HQ.out.at hs
   have hx:r.xs=s.xs:=by
    have h9:=congrArg (fun l=>l[k]?) HH.out
    simp only [List.getElem?_map,hr,hs,Option.map_some] at h9
    exact Option.some.inj h9
   obtain ⟨ba,oa,rfl,hca⟩:=Dx hs1 (by omega)
   obtain ⟨bb,ob,rfl,hcb⟩:=Dx hs2 (by omega)
   have hcl0:=hca k _ hg0
   have hcl1:=hcb k _ hg1
   obtain ⟨ra,rc,rx⟩:=r
   obtain ⟨sa,sc,sx⟩:=s
   dsimp only at hx hrs hss hcl0 hcl1
   subst hx
   obtain ⟨rn,hrn⟩:∃n,rx.length=n:=⟨_,rfl⟩
   rw [hrn] at hrs hss hcl0 hcl1
   have HEQ:=AD fun (w:World)(hx:Ai w0 w)=>ML w _ _ rx rx (Vb (hrs.ext hx)) (Vb (hss.ext hx))
   clear hca hcb hr hs hg0 hg1 hrl hsl hrs hss hs1 hs2
   repeat' (first
    | refine X0 ?_|refine X2 ?_|refine AG ?_;go_step|fail)
   all_goals (try exact AR)
   refine AP [8] (fun w=>St w0 w []) AA ?_
   replace hS:=hS.drew
   focus
    refine AZ 0 ?_
    refine AZ 1 ?_
    refine BZ 2 BN (V.indexSl Tryz.underlying22 Ff rfl rfl A9 (by omega) (Nat.mul_one _) A7) ?_;go_step
    refine dH 3 [8,9] ?_
    refine AZ 4 ?_
    refine AZ 5 ?_
    refine BZ 6 BN (V.indexSl Tryz.underlying22 Ff rfl rfl A9 (by omega) (Nat.mul_one _) A7) ?_;go_step
    refine dH 7 [8,9] ?_
    refine Av 8 ?_
    refine AY (f:=29) rfl Tryz.call29 (HEQ.out _ hS.1) ?_;rintro e w ⟨rfl,rfl⟩;refine ⟨_,rfl,?_⟩
    refine ⟨fun h=>absurd (by decide) h,?_⟩
    refine AI ?_
    go_step
    refine BZ 9 BN (V.notD rfl) ?_;go_step
    refine AE AA ?_ _
   all_goals
    repeat' (first|(refine AG ?_;go_step)|fail)
    repeat' (first
     | refine X1 ?_|refine X7 ?_|refine AG ?_;go_step|fail)
    go_roundg (gk-1)
    case measure=>omega
    case rel=>exact ⟨k+1,by omega,by go_num,hS.sub AV⟩
  obtain rfl:k=N:=by omega
  repeat' (first
   | refine X8 ?_|refine X2 ?_|refine AG ?_;go_step|fail)
  repeat' (first
   | refine AG ?_;go_step|fail)
  go_ret
  exact ⟨rfl,hS.1⟩
theorem Lz(w0:World)(m h:Int)(a b:Option Addr)(c d:Nat)(R R2:List Rw)(hP:BU w0 a c R)(hQ:BU w0 b d R2)(hR:R.length≤9223372036854775807)(hh:R.map (·.xs)=R2.map (·.xs)):
 Calls Tryz.prog 23 #[.agg #[.int .i64 m, .int .i64 h, .slice a R.length c], .agg #[.int .i64 m, .int .i64 h, .slice b R2.length d]] w0 fun e w=>e= .returned (.bool true)∧Ai w0 w:=by
 have hS:=St.start w0
 have HEL:=AD fun (w:World)(hx:Ai w0 w)=>Of w a b c d R R2 (hP.ext hx) (hQ.ext hx) hR hh
 obtain ⟨n1,hn1⟩:∃n,R.length=n:=⟨_,rfl⟩
 obtain ⟨n2,hn2⟩:∃n,R2.length=n:=⟨_,rfl⟩
 rw [hn1,hn2] at HEL
 rw [hn1,hn2]
 clear hP hQ hR hh hn1 hn2
 go_enter Tryz.func23,Tryz.ntmps23
 repeat' (first
  | (refine As 55 ?_);refine At AA Tryz.call55 (HEL.out _ hS.1) (Fp hS ?_);clear hS;intro w hS;go_step|refine X0 ?_|refine Fi ?_|refine H6 9 ?_ ?_<;>intro hB<;>(try exact AR)<;>go_step|refine H6 15 ?_ ?_<;>intro hB<;>(try exact AR)<;>go_step|refine bN ?_|refine bO ?_|refine Uk ?_|refine P7 2 ?_;clear hS;intro g2 w hS|refine P7 3 ?_;clear hS;intro g3 w hS|refine X9 ?_|refine YF ?_|refine AG ?_;go_step|fail)
 all_goals (try exact AR)
 go_ret
 exact ⟨rfl,hS.1⟩
theorem WY{w:World}{s n c:Nat}{a:Option Addr}{cs:List Value}(h:Sl w s (.slice a n c) n cs):n≤9223372036854775807:=by
 obtain ⟨_,a',c',e,h1,h2,_⟩:=h
 unfold maxLen at h2
 omega
theorem Rr{w:World}{m h:Int}{np ev:Nat}{q C1 S1 C2 S2 D:List Int}(hq:Al q 64)(l1:Al C1 16)(l2:Al C2 16)(hD:∀x∈D,0≤x∧x<256){a1 a2 ad:Option Addr}{n1 k1 n2 k2 nd kd:Nat}(s1:Sl w 1 (.slice a1 n1 k1) n1 (S1.map (Value.int .i64)))(s2:Sl w 1 (.slice a2 n2 k2) n2 (S2.map (Value.int .i64)))(sd:Sl w 1 (.slice ad nd kd) nd (D.map (Value.int .u8))):FM w (Cs m h np q C1 S1 C2 S2 ev D) a1 a2 ad n1 k1 n2 k2 nd kd:=
 ⟨hq,l1,l2,s1,s2,WY s1,WY s2,by rw [FS m h np q C1 S1 C2 S2 ev D hD];exact sd,WY sd,fun x hx=>by
  obtain ⟨y,hy,rfl⟩:=List.mem_map.1 hx
  have:=hD y hy
  omega⟩
theorem Rm(w:World){m h:Int}{np n K:Nat}{q B C1 S1 C2 S2 D:List Int}{ev:Nat}(hok:1≤m∧m≤64∧1≤h∧h≤64)(hnp:np=1∨np=3)(hq:Al q 64)(hqk:H4 q=true)(hev:ev≤100)(hK:Ae m h=K)(hn:np*K=n)(hB:B.length=n*64)(hab:Aw B n=true)(he:Ud B n ev C1 S1 C2 S2 D){a1 a2 ad:Option Addr}{n1 k1 n2 k2 nd kd:Nat}(s1:Sl w 1 (.slice a1 n1 k1) n1 (S1.map (Value.int .i64)))(s2:Sl w 1 (.slice a2 n2 k2) n2 (S2.map (Value.int .i64)))(sd:Sl w 1 (.slice ad nd kd) nd (D.map (Value.int .u8)))(hml:∃m,w.cell? ⟨0,0,none⟩=some (.int .i64 m)):
 Calls Tryz.prog 21 #[VU m h np q C1 (.slice a1 n1 k1) C2 (.slice a2 n2 k2) ev (.slice ad nd kd)] w fun e w'=>∃(a:Option Addr) (c:Nat) (R:List Rw),R.map (·.xs)=Ov m h q B K np∧e= .returned (.tuple #[.agg #[.int .i64 m, .int .i64 h, .slice a R.length c], .int .i64 0])∧Ca w w' a c R []:=by
 obtain ⟨h1,h2,h3,h4,h5⟩:=VK hok hnp hqk hev hK hn hB hab he
 have hlt:∀x∈D,0≤x∧x<256:=by rw [he.d];exact Rj
 have hF:=Rr (m:=m) (h:=h) (np:=np) (ev:=ev) hq he.l1 he.l2 hlt s1 s2 sd
 refine (QO w _ a1 a2 ad n1 k1 n2 k2 nd kd hF hml).mono fun e w' hh=>?_
 obtain ⟨a,c,R,r1,r2,r3⟩:=hh.2 h4
 exact ⟨a,c,R,r1.trans h5,r2,r3⟩
theorem J4{W w:World}{rs rs1 rs2:List Ar}{g6 g7 n:Nat}{xs:List Int}{cs:List Value}(hS:St W w rs)(p1:AT (blk g7 [.slice (some ⟨g6,0,none⟩) n n]) rs rs1)(p2:AT (blk g6 cs) rs rs2)(hcs:cs=xs.map (Value.int .i64))(hn:xs.length=n)(hm:n≤maxLen):BU w (some ⟨g7,0,none⟩) 1 [⟨some ⟨g6,0,none⟩,n,xs⟩]:=by
 subst hn hcs
 refine ⟨?_,fun r hr=>?_⟩
 ·exact hS.slBlk (n:=1) (s:=1) p1 rfl (by decide)
 simp only [List.mem_cons,List.not_mem_nil,or_false] at hr
 subst hr
 exact hS.slBlk (n:=xs.length) (s:=1) p2 (by simp) hm
theorem YY(w:World)(m:Nat)(hm:1≤m∧m≤2)(ev:Nat)(hev:ev≤100)(a6 a7:Option Addr)(c6 c7:Nat)(hP:BU w a7 c7 [⟨a6,c6,List.replicate m 128⟩]):
 Calls Tryz.prog 17 #[.agg #[.int .i64 m, .int .i64 1, .slice a7 1 c7], .agg (iv (List.replicate 64 1)), .int .i64 ev] w fun e w'=>∃(C1 S1 C2 S2 D:List Int) (a1 a2 ad:Option Addr) (n1 k1 n2 k2 nd kd:Nat),Ud (List.replicate 64 0) 1 ev C1 S1 C2 S2 D∧
  e= .returned (.tuple #[VU m 1 1 (List.replicate 64 1) C1 (.slice a1 n1 k1) C2 (.slice a2 n2 k2) ev (.slice ad nd kd), .int .i64 0])∧St w w' [own 3 1 a1 n1 k1 (S1.map (Value.int .i64)),own 3 1 a2 n2 k2 (S2.map (Value.int .i64)),own 5 1 ad nd kd (D.map (Value.int .u8))]:=by
 have hz:Lu m 1 (List.replicate 64 1) [List.replicate m 128]=0∧P1 m 1 (List.replicate 64 1) [List.replicate m 128]=List.replicate 64 0∧Ae m 1=1:=by
  obtain rfl|rfl:m=1∨m=2:=by omega
  ·exact ⟨by kernel_rfl,by kernel_rfl,by kernel_rfl⟩
  exact ⟨by kernel_rfl,by kernel_rfl,by kernel_rfl⟩
 obtain ⟨z1,z2,z3⟩:=hz
 have hpe:EZ m 1 (List.replicate 64 1) [List.replicate m 128] ev=0:=by
  unfold EZ
  rw [if_pos z1,if_pos (by omega),z2,z3]
  exact if_pos AA
 refine (JP w m 1 (by omega) a7 c7 [⟨a6,c6,List.replicate m 128⟩] (by show 1≤9223372036854775807;omega) hP (List.replicate 64 1) List.length_replicate ev hev z1).mono fun e w' hh=>?_
 obtain ⟨C1,S1,C2,S2,D,a1,a2,ad,n1,k1,n2,k2,nd,kd,h1,_,_,_,h2,h3⟩:=hh.2 hpe
 refine ⟨C1,S1,C2,S2,D,a1,a2,ad,n1,k1,n2,k2,nd,kd,?_,h2,h3⟩
 have e1:P1 m 1 (List.replicate 64 1) (List.map (fun x=>x.xs) [({ad:=a6,c:=c6,xs:=List.replicate m 128}:Rw)])=List.replicate 64 0:=z2
 rw [e1] at h1
 rw [show [({ad:=a6,c:=c6,xs:=List.replicate m 128}:Rw)].length*Ae m 1=1 by rw [z3];rfl] at h1
 exact h1
theorem Yg(m:Nat)(hm:1≤m∧m≤2):Ov m 1 (List.replicate 64 1) (List.replicate 64 0) 1 1=[List.replicate m 128]:=by
 obtain rfl|rfl:m=1∨m=2:=by omega
 ·kernel_rfl
 kernel_rfl
theorem QE(m0:Int)(m1:Int)(a2:Option Addr)(n2 c2:Nat)(w:World):(Instr.build 24 #[(0, .int .i64 m0),(1, .int .i64 m1),(2, .slice a2 n2 c2)]).run Tryz.prog w= .ok (.agg #[.int .i64 m0, .int .i64 m1, .slice a2 n2 c2]) w:=by kernel_rfl
theorem TZ(n:Int)(i:Nat)(h:i<64):(List.replicate i n++List.replicate (64-i) 0).set i n=List.replicate (i+1) n++List.replicate (64-(i+1)) 0:=by
 obtain ⟨m,hm⟩:∃m,64-i=m+1:=⟨64-i-1,by omega⟩
 rw [hm,show 64-(i+1)=m by omega,List.set_append_right _ _ (by simp),List.length_replicate,Nat.sub_self,List.replicate_succ,List.set_cons_zero,List.replicate_succ',List.append_assoc]
 rfl
theorem MS(w0:World)(n:Int):Calls Tryz.prog 27 #[.int .i64 n] w0 fun e w=>e= .returned (.agg (iv (List.replicate 64 n)))∧Ai w0 w:=by
 have hS:=St.start w0
 go_enter Tryz.func27,Tryz.ntmps27
 repeat' (first
  | refine X1 ?_|refine KK 2 ?_;clear hS;intro g2 w hS|refine AG ?_;go_step|fail)
 go_loopg [4] 64 (fun gk kv w=>∃k:Nat,gk+k=64∧kv= .int .i64 k∧St w0 w [arr g2 64 (List.replicate k n++List.replicate (64-k) 0)])
 case atStart=>exact ⟨0,rfl,rfl,by rw [show List.replicate 0 n++List.replicate (64-0) 0=List.replicate 64 0 by simp];exact hS.sub AV⟩
 case round=>
  clear hS
  obtain ⟨k,hk,rfl,hS⟩:=hrel
  by_cases hlt:k<64
  ·have HX:=AD (TZ n k hlt)
   repeat' (first
    | refine X0 ?_|refine X2 ?_|refine YA 9 ?_|refine X7 ?_|refine Xg ?_;clear hS;intro w hS|refine AG ?_;go_step|fail)
   go_roundg (gk-1)
   case measure=>omega
   case rel=>exact ⟨k+1,by omega,by go_num,by rw [←HX.out];exact hS.sub AV⟩
  obtain rfl:k=64:=by omega
  rw [show List.replicate 64 n++List.replicate (64-64) 0=List.replicate 64 n by simp] at hS
  repeat' (first
   | refine X2 ?_|refine Jm ?_|refine Fd ?_;clear hS;intro w hS|refine AG ?_;go_step|fail)
  refine BQ rfl (AC.arr hS rfl (AO (n:=64) rfl) AL) rfl ?_
  exact ⟨rfl,hS.1⟩
theorem Hd(w0:World)(hml:∃m,w0.cell? ⟨0,0,none⟩=some (.int .i64 m)):Calls Tryz.prog 15 #[] w0 fun e w=>e= .returned (.bool true)∧Ai w0 w:=by
 have hS:=St.start w0
 have HML:=AD hml
 have HE:Hid (∀w a6 a7,BU w a7 1 [⟨a6,1,[128]⟩]→Calls Tryz.prog 17 #[.agg #[.int .i64 1, .int .i64 1, .slice a7 1 1], .agg (iv (List.replicate 64 1)), .int .i64 0] w fun e w'=>∃(C1 S1 C2 S2 D:List Int) (a1 a2 ad:Option Addr) (n1 k1 n2 k2 nd kd:Nat),Ud (List.replicate 64 0) 1 0 C1 S1 C2 S2 D∧
  e= .returned (.tuple #[.agg (AF [.val (.int .i64 1), .val (.int .i64 1), .val (.int .i64 1), .ints (List.replicate 64 1), .ints C1, .val (.slice a1 n1 k1), .ints C2, .val (.slice a2 n2 k2), .val (.int .i64 0), .val (.slice ad nd kd)]).toArray, .int .i64 0])∧St w w' [own 3 1 a1 n1 k1 (S1.map (Value.int .i64)),own 3 1 a2 n2 k2 (S2.map (Value.int .i64)),own 5 1 ad nd kd (D.map (Value.int .u8))]):=
  fun w a6 a7 hP=>YY w 1 (by decide) 0 (by decide) a6 a7 1 1 hP
 have HD:Hid (∀w (C1 S1 C2 S2 D:List Int) (a1 a2 ad:Option Addr) (n1 k1 n2 k2 nd kd:Nat),(∃m,w.cell? ⟨0,0,none⟩=some (.int .i64 m))→Ud (List.replicate 64 0) 1 0 C1 S1 C2 S2 D→Sl w 1 (.slice a1 n1 k1) n1 (S1.map (Value.int .i64))→Sl w 1 (.slice a2 n2 k2) n2 (S2.map (Value.int .i64))→Sl w 1 (.slice ad nd kd) nd (D.map (Value.int .u8))→
  Calls Tryz.prog 21 #[.agg (AF [.val (.int .i64 1), .val (.int .i64 1), .val (.int .i64 1), .ints (List.replicate 64 1), .ints C1, .val (.slice a1 n1 k1), .ints C2, .val (.slice a2 n2 k2), .val (.int .i64 0), .val (.slice ad nd kd)]).toArray] w fun e w'=>∃(a:Option Addr) (c:Nat) (R:List Rw),R.map (·.xs)=[[128]]∧e= .returned (.tuple #[.agg #[.int .i64 1, .int .i64 1, .slice a R.length c], .int .i64 0])∧Ca w w' a c R []):=
  fun w C1 S1 C2 S2 D a1 a2 ad n1 k1 n2 k2 nd kd hm he s1 s2 sd=>by
   refine (Rm w (m:=1) (h:=1) (np:=1) (n:=1) (K:=1) (q:=List.replicate 64 1) (B:=List.replicate 64 0) (ev:=0) (by decide) (.inl rfl) List.length_replicate (by decide+kernel) (by decide) (by decide+kernel) rfl rfl (by decide+kernel) he s1 s2 sd hm).mono fun e w' hh=>?_
   obtain ⟨a,c,R,r1,r2,r3⟩:=hh
   exact ⟨a,c,R,r1.trans (Yg 1 (by decide)),r2,r3⟩
 clear hml
 go_enter Tryz.func15,Tryz.ntmps15
 repeat' (first
  | refine X8 ?_|(refine AQ 8 ?_);(refine An AA (V.build (vs:=[(0,_),(1,_),(2,_)]) rfl (QE _ _ _ _ _)) ?_;go_step)|refine Xb 6 ?_;clear hS;intro g6 w hS|refine dT 7 ?_;clear hS;intro g7 w hS|refine UU 1 ?_;clear hS;intro g1 w hS|refine UV ?_;clear hS;intro w hS|refine AG ?_;go_step|fail)
 refine AP [2,7] (fun w=>St w0 w [blk g1 [.int .i64 1, .int .i64 1, .slice (some ⟨g7,0,none⟩) 1 1],blk g7 [.slice (some ⟨g6,0,none⟩) 1 1],blk g6 [.int .i64 128]]) AA ?_
 replace hS:=hS.drew
 focus
  apply Ct 0 Aj AA AA AA Be [2,3,4,5,7,8] AA (hS.sub AV)
  case hfr=>intro w hS;((refine Ad ?_;apply Dz hS 24 _ rfl _ rfl 3 (AO rfl) _;(case hp=>exact AL);(case hn=>rfl);refine AB ?_;go_step));refine wpList_nil ?_;exact ⟨rfl,rfl⟩
  case hd=>rfl
  refine BM [1,6] AA (by simp) (.cons Aj AA ?_ (.cons Aj AA ?_ (.nil)))
  rotate_left 1
  focus
   refine bY ?_;clear hS;intro g2 w hS
   refine Av 1 ?_
   refine AY (f:=27) rfl Tryz.call27 (MS _ 1) ?_;rintro e w ⟨rfl,hE⟩;replace hS:=hS.ext hE;clear hE;refine ⟨_,rfl,?_⟩
   refine ⟨fun _ _=>hS.sub AV,?_⟩
   refine AI ?_
   go_step
   refine Av 2 ?_
   refine AY (f:=17) rfl Tryz.call17 (HE.out _ (some ⟨g6,0,none⟩) (some ⟨g7,0,none⟩) (J4 (xs:=[128]) (cs:=[.int .i64 128]) hS AL AL rfl rfl (by decide))) ?_;rintro e w ⟨C1,S1,C2,S2,D,a1,a2,ad,n1,k1,n2,k2,nd,kd,hen,rfl,hS2⟩;replace hS:=hS.call hS2;clear hS2;simp only [List.cons_append,List.nil_append] at hS;have hC1:=hen.l1;have hC2:=hen.l2;have HEN:=AD hen;clear hen;refine ⟨_,rfl,?_⟩
   refine ⟨fun h=>absurd (by decide) h,?_⟩
   refine AI ?_
   go_step
   refine AZ 3 ?_
   refine Y2 4 ?_
   refine Y2 5 ?_
   refine Av 7 ?_
   refine bZ ?_;clear hS;intro w hS
   refine AZ 8 ?_
   refine AE AA ?_ _
  rotate_right 1
  focus
   refine AY (f:=27) rfl Tryz.call27 (MS _ 1) ?_;rintro e w ⟨rfl,hE⟩;replace hS:=hS.ext hE;clear hE;refine ⟨_,rfl,?_⟩
   refine ⟨fun _ _=>hS.sub AV,?_⟩
   refine AI ?_
   go_step
   refine BM [2,6] AA (by simp) (.cons Aj AA ?_ (.cons Aj AA ?_ (.nil)))
   rotate_left 1
   focus
    refine bY ?_;clear hS;intro g2 w hS
    refine Av 2 ?_
    refine AY (f:=17) rfl Tryz.call17 (HE.out _ (some ⟨g6,0,none⟩) (some ⟨g7,0,none⟩) (J4 (xs:=[128]) (cs:=[.int .i64 128]) hS AL AL rfl rfl (by decide))) ?_;rintro e w ⟨C1,S1,C2,S2,D,a1,a2,ad,n1,k1,n2,k2,nd,kd,hen,rfl,hS2⟩;replace hS:=hS.call hS2;clear hS2;simp only [List.cons_append,List.nil_append] at hS;have hC1:=hen.l1;have hC2:=hen.l2;have HEN:=AD hen;clear hen;refine ⟨_,rfl,?_⟩
    refine ⟨fun h=>absurd (by decide) h,?_⟩
    refine AI ?_
    go_step
    refine AZ 3 ?_
    refine Y2 4 ?_
    refine Y2 5 ?_
    refine Av 7 ?_
    refine bZ ?_;clear hS;intro w hS
    refine AZ 8 ?_
    refine AE AA ?_ _
   rotate_right 1
   focus
    refine AY (f:=17) rfl Tryz.call17 (HE.out _ (some ⟨g6,0,none⟩) (some ⟨g7,0,none⟩) (J4 (xs:=[128]) (cs:=[.int .i64 128]) hS AL AL rfl rfl (by decide))) ?_;rintro e w ⟨C1,S1,C2,S2,D,a1,a2,ad,n1,k1,n2,k2,nd,kd,hen,rfl,hS2⟩;replace hS:=hS.call hS2;clear hS2;simp only [List.cons_append,List.nil_append] at hS;have hC1:=hen.l1;have hC2:=hen.l2;have HEN:=AD hen;clear hen;refine ⟨_,rfl,?_⟩
    refine ⟨fun h=>absurd (by decide) h,?_⟩
    refine AI ?_
    go_step
    refine AZ 3 ?_
    refine Y2 4 ?_
    refine Y2 5 ?_
    refine Av 6 ?_
    refine bY ?_;clear hS;intro g2 w hS
    refine Av 7 ?_
    refine bZ ?_;clear hS;intro w hS
    refine AZ 8 ?_
    refine AE AA ?_ _
 all_goals
  repeat' (first|(refine AG ?_;go_step)|fail)
  repeat' (first
   | (refine As 21 ?_);refine At AA Tryz.call21 (HD.out _ C1 S1 C2 S2 D a1 a2 ad n1 k1 n2 k2 nd kd (HML.out.imp fun m h=>hS.1.cell h) HEN.out (hS.sl AL) (hS.sl AL) (hS.sl AL)) ?_;rintro e w ⟨a9,c9,R9,hR9,rfl,hP9⟩;replace hS:=hS.call hP9;clear hP9;simp only [List.cons_append,List.nil_append] at hS;have HR9:=AD hR9;clear hR9;refine Ac ?_;go_step|(refine As 23 ?_);refine At AA Tryz.call23 (Lz _ 1 1 (some ⟨g7,0,none⟩) a9 1 c9 [⟨some ⟨g6,0,none⟩,1,[128]⟩] R9 (J4 (xs:=[128]) (cs:=[.int .i64 128]) hS AL AL rfl rfl (by decide)) (BU.of hS AL AL) (by show 1≤9223372036854775807;omega) HR9.out.symm) (Fp hS ?_);clear hS;intro w hS;go_step|refine X0 ?_|refine Fi ?_|refine H6 21 ?_ ?_<;>intro hB<;>(try exact AR)<;>go_step|refine H6 24 ?_ ?_<;>intro hB<;>(try exact AR)<;>go_step|refine X6 ?_|refine P8 ?_|refine UU 4 ?_;clear hS;intro g4 w hS|refine UV ?_;clear hS;intro w hS|refine Us ?_|refine AG ?_;go_step|fail)
  all_goals (try exact AR)
  all_goals (try (have hF:False:=(hB rfl);cases hF))
  all_goals
   go_ret
   exact ⟨rfl,hS.1⟩
theorem SI(w0:World)(C S:List Int)(a:Option Addr)(n c:Nat)(hC:Al C 16)(hs:Sl w0 1 (.slice a n c) n (S.map (Value.int .i64)))(hn:n≤100000):
 Calls Tryz.prog 61 #[.agg (AF [.ints C, .val (.slice a n c)]).toArray] w0 fun e w=>∃b j,e= .returned (.agg (AF [.ints C, .val (.slice b n j)]).toArray)∧St w0 w [own 3 1 b n j (S.map (Value.int .i64))]:=by
 have hS:=St.start w0
 go_enter Tryz.func61,Tryz.ntmps61
 repeat' (first
  | refine Xz 3 ?_|refine Xz 6 ?_|refine Zl 1 ?_;clear hS;intro g1 w hS|refine RS 2 ?_;clear hS;intro g2 w hS|refine Ul ?_|(refine AQ 5 ?_);(refine Ad ?_;apply A4 (o:=⟨some 5,_,_,_,_,_⟩) (hS.nilk 3 1 .i64) _ _ 30 rfl 3 1 8 M9 _ _ _ _ rfl;(case hp=>exact AL);(case hx=>exact rfl);(case hm=>(first|exact hS.slBlk AL (by rfl) (by decide)|exact hS.sl AL|with_reducible assumption|exact Sl.ext (by with_reducible assumption) hS.1|exact Sl.nil _ _|exact Sl.ext (by assumption) hS.1|assumption));(case h1=>(first|exact CO rfl|exact Bu _ _|(intro u hu;cases hu)));(case h63=>unfold maxLen;omega);(case hb=>omega);clear hS;intro ad5 c5 w hS;(first|simp only [DM] at hS|simp only [DN] at hS|simp only [DO] at hS|simp only [DP] at hS|simp only [DQ] at hS|skip);refine AB ?_;go_step)|refine da ?_;clear hS;intro w hS|refine Lk ?_|refine S9 ?_;clear hS;intro w hS|refine AG ?_;go_step|fail)
 rw [Nat.zero_add] at hS
 rw [List.nil_append] at hS
 refine BQ rfl (AC.prt hS rfl (AO (n:=17) rfl) AL (by (repeat (first|exact Bx.nil|(apply Bx.ints;(case hn=>exact EC);(case h=>omega);(case hm=>rfl))|apply Bx.val)))) rfl ?_
 exact ⟨_,_,rfl,hS.sub AV⟩
def CC(ps:List (List Int))(ms:List Int)(k:Nat):Nat→List Int
 | 0=>[]
 | i+1=>CC ps ms k i++(if i=0 then [] else [255,AJ ms (i-1)])++(if i=k then [] else ps.getD i [])
theorem GW{f:CT}(h:CB f=0):f.data.length≤90000∧f.s1.length≤256∧f.s2.length≤256:=by
 unfold CB at h
 split at h
 ·split at h
  ·split at h
   ·split at h
    ·rename_i h1 h2
     split at h
     ·rename_i h3;exact ⟨h3,(Dq h1).2.2.1,(Dq h2).2.2.1⟩
     cases h
    rename_i h1 h2;exact absurd h h2
   rename_i h1;exact absurd h h1
  cases h
 cases h
theorem eO{w:World}{n c:Nat}{a:Option Addr}{l:List Int}{q:IntKind}(h:Sl w 1 (.slice a n c) n (l.map (Value.int q))):l.length=n:=by have:=h.1;simpa using this
theorem eF(w0:World)(f:CT)(a1 a2 ad:Option Addr)(n1 k1 n2 k2 nd kd:Nat)(hF:FM w0 f a1 a2 ad n1 k1 n2 k2 nd kd)(hz:CB f=0)(ps:List (List Int))(ms:List Int)(hsp:Df (D7 f) [] [] []=some (ps,ms))(k:Nat)(hk:ps.length≤k)(hk2:k≤1000000):
 Calls Tryz.prog 34 #[fv f (.slice a1 n1 k1) (.slice a2 n2 k2) (.slice ad nd kd), .int .i64 k] w0 fun e w=>e= .returned (.tuple #[gz, .int .i64 5])∧Ai w0 w:=by
 have hS:=St.start w0
 obtain ⟨lp,hlp⟩:∃n,ps.length=n:=⟨_,rfl⟩
 have HCK:=AD fun (w:World)(hx:Ai w0 w)=>(by have:=(hF.ext hx).chk;rw [hz] at this;exact this:Calls Tryz.prog 52 #[fv f (.slice a1 n1 k1) (.slice a2 n2 k2) (.slice ad nd kd)] w fun e w'=>e= .returned (.int .i64 0)∧Ai w w')
 have HSP:=AD fun (w:World)(hx:Ai w0 w)=>(FE w ad nd kd (D7 f) (hF.ext hx).sd (ID hF.dlt) (by have h1:=hF.dl;have h2:=(GW hz).1;omega)).mono fun e w' hh=>hh.2 ps ms hsp
 have hQ:=hF.q
 have hC1:=hF.l1
 have hC2:=hF.l2
 rw [hlp] at hk
 rw [hlp] at HSP
 clear hF hz hsp hlp
 obtain ⟨m,h,p,Q,C1,S1,C2,S2,ev,D⟩:=f
 dsimp only at hQ hC1 hC2 HCK HSP⊢
 show Calls Tryz.prog 34 #[.agg (AF [.val (.int .i64 m), .val (.int .i64 h), .val (.int .i64 p), .ints Q, .ints C1, .val (.slice a1 n1 k1), .ints C2, .val (.slice a2 n2 k2), .val (.int .i64 ev), .val (.slice ad nd kd)]).toArray, .int .i64 k] _ _
 go_enter Tryz.func34,Tryz.ntmps34
 repeat' (first
  | (refine As 52 ?_);refine At AA Tryz.call52 (HCK.out _ hS.1) (Fp hS ?_);clear hS;intro w hS;go_step|(refine As 60 ?_);refine At AA Tryz.call60 (HSP.out _ hS.1) ?_;rintro e w ⟨pcs,ao,am,co,cm,lo,lm,rfl,rfl,hpc,rfl,hS2⟩;replace hS:=hS.ext hS2.1;clear hS2;refine Ac ?_;go_step|(refine AQ 39 ?_);refine An AA (V.build (vs:=[]) rfl IB) ?_;unfold gz;go_step|refine X0 ?_|refine Iu ?_|refine H6 26 ?_ ?_<;>intro hB<;>(try exact AR)<;>go_step|refine Ei 29 ?_ ?_<;>intro hB<;>(try exact AR)<;>go_step|refine Fe 15 ?_|refine bV 19 ?_|refine X3 22 ?_|refine X3 23 ?_|refine X3 24 ?_|(refine AQ 33 ?_);(refine An AA (V.len Tryz.underlying88 rfl) ?_;go_step)|(refine AQ 34 ?_);(refine An AA (V.geq rfl rfl) ?_;go_step)|refine Fe 38 ?_|refine OJ 2 ?_;clear hS;intro g2 w hS|refine YC 4 ?_;clear hS;intro g4 w hS|refine P8 ?_|refine YD ?_;clear hS;intro w hS|refine Um ?_|refine AG ?_;go_step|fail)
 all_goals (try exact AR)
 refine AK (xs:=[_,_]) rfl (.cons (AC.prt hS rfl (AO (n:=103) rfl) AL (by (repeat (first|exact Bx.nil|(apply Bx.ints;(case hn=>exact EC);(case h=>omega);(case hm=>rfl))|apply Bx.val)))) (.cons (AC.tmp rfl) (.nil))) (by simp) rfl ?_
 exact ⟨rfl,hS.1⟩
theorem WI{x y z:Value}{Q C1 C2:List Int}{v1 v2 u1 u2 e d:Value}(hQ:Al Q 64)(h1:Al C1 16)(h2:Al C2 16):Jr [.ints C1, .val u1, .ints C2, .val u2] [.val x, .val y, .val z, .ints Q, .ints C1, .val v1, .ints C2, .val v2, .val e, .val d] 67 [.val x, .val y, .val z, .ints Q, .ints C1, .val u1, .ints C2, .val u2, .val e, .val d]:=
 .skipV (.skipV (.skipV (.skipI hQ (by omega) rfl (.head (B:=[.ints C1, .val v1, .ints C2, .val v2]) (D:=[.val e, .val d]) (by simp [AF,Af.cells])))))
theorem Vh{C1 C2:List Int}{u1 u2:Value}(h1:Al C1 16)(h2:Al C2 16):(AF [.ints C1, .val u1, .ints C2, .val u2]).length=34:=by
 simp [AF,Af.cells,h1.out,h2.out]
theorem u8_in{z:Int}(h:0≤z∧z<256):IntKind.u8.wrap z=z:=by
 have h1:IntKind.u8.wrap z=z%256:=by simp [IntKind.wrap,IntKind.signed,IntKind.bits]
 rw [h1];omega
theorem WF{x y z:Value}{Q C1 C2:List Int}{v1 v2 e d u:Value}(hQ:Al Q 64)(h1:Al C1 16)(h2:Al C2 16):G5 u [.val x, .val y, .val z, .ints Q, .ints C1, .val v1, .ints C2, .val v2, .val e, .val d] 102 [.val x, .val y, .val z, .ints Q, .ints C1, .val v1, .ints C2, .val v2, .val e, .val u]:=
 .skipV (.skipV (.skipV (.skipI hQ (by omega) rfl (.skipI h1 (by omega) rfl (.skipV (.skipI h2 (by omega) rfl (.skipV (.skipV .head))))))))
theorem Yl(w0:World)(f:CT)(a1 a2 ad:Option Addr)(n1 k1 n2 k2 nd kd:Nat)(hF:FM w0 f a1 a2 ad n1 k1 n2 k2 nd kd)(hz:CB f=0)(ps:List (List Int))(ms:List Int)(hsp:Df (D7 f) [] [] []=some (ps,ms))(hms:ms.length+1=ps.length)(hmb:∀i,i<ms.length→0≤AJ ms i∧AJ ms i<256)(k:Nat)(hk:k<ps.length)(hL:∀i,i≤ps.length→(CC ps ms k i).length≤200000)(hP:∀x∈ps,x.length≤200000)(hlp2:ps.length≤1000000):
 Calls Tryz.prog 34 #[fv f (.slice a1 n1 k1) (.slice a2 n2 k2) (.slice ad nd kd), .int .i64 k] w0 fun e w=>∃(b1 b2 bd:Option Addr) (j1 j2 jd N:Nat),(CC ps ms k ps.length).length=N∧e= .returned (.tuple #[.agg (AF [.val (.int .i64 f.wide), .val (.int .i64 f.high), .val (.int .i64 f.parts), .ints f.quant, .ints f.c1, .val (.slice b1 n1 j1), .ints f.c2, .val (.slice b2 n2 j2), .val (.int .i64 f.every), .val (.slice bd N jd)]).toArray, .int .i64 0])∧
  St w0 w [own 3 1 b1 n1 j1 (f.s1.map (Value.int .i64)),own 3 1 b2 n2 j2 (f.s2.map (Value.int .i64)),own 5 1 bd N jd ((CC ps ms k ps.length).map (Value.int .u8))]:=by
 have hS:=St.start w0
 obtain ⟨lp,hlp⟩:∃n,ps.length=n:=⟨_,rfl⟩
 have HCK:=AD fun (w:World)(hx:Ai w0 w)=>(by have:=(hF.ext hx).chk;rw [hz] at this;exact this:Calls Tryz.prog 52 #[fv f (.slice a1 n1 k1) (.slice a2 n2 k2) (.slice ad nd kd)] w fun e w'=>e= .returned (.int .i64 0)∧Ai w w')
 have HSP:=AD fun (w:World)(hx:Ai w0 w)=>(FE w ad nd kd (D7 f) (hF.ext hx).sd (ID hF.dlt) (by have h1:=hF.dl;have h2:=(GW hz).1;omega)).mono fun e w' hh=>hh.2 ps ms hsp
 have hQ:=hF.q
 have hC1:=hF.l1
 have hC2:=hF.l2
 have hs1:=hF.s1
 have hs2:=hF.s2
 have hn1:n1≤256:=by rw [←eO hs1];exact (GW hz).2.1
 have hn2:n2≤256:=by rw [←eO hs2];exact (GW hz).2.2
 have HL:=AD hL
 have HP:=AD hP
 have HMB:=AD hmb
 have HLP:=AD hlp
 rw [hlp] at hk HSP hms hlp2 HL
 clear hF hz hsp hL hP hmb
 obtain ⟨m,h,p,Q,C1,S1,C2,S2,ev,D⟩:=f
 dsimp only at hQ hC1 hC2 HCK HSP hs1 hs2⊢
 rw [hlp]
 clear hlp
 show Calls Tryz.prog 34 #[.agg (AF [.val (.int .i64 m), .val (.int .i64 h), .val (.int .i64 p), .ints Q, .ints C1, .val (.slice a1 n1 k1), .ints C2, .val (.slice a2 n2 k2), .val (.int .i64 ev), .val (.slice ad nd kd)]).toArray, .int .i64 k] _ _
 go_enter Tryz.func34,Tryz.ntmps34
 repeat' (first
  | (refine As 52 ?_);refine At AA Tryz.call52 (HCK.out _ hS.1) (Fp hS ?_);clear hS;intro w hS;go_step|(refine As 60 ?_);refine At AA Tryz.call60 (HSP.out _ hS.1) ?_;rintro e w ⟨pcs,ao,am,co,cm,lo,lm,rfl,rfl,hpc,rfl,hS2⟩;replace hS:=hS.call hS2;clear hS2;simp only [List.cons_append,List.nil_append] at hS;have HPC:=AD hpc;clear hpc;refine Ac ?_;go_step|refine X0 ?_|refine Iu ?_|refine H6 26 ?_ ?_<;>intro hB<;>(try exact AR)<;>go_step|refine Ei 29 ?_ ?_<;>intro hB<;>(try exact AR)<;>go_step|refine Fe 15 ?_|refine bV 19 ?_|refine X3 22 ?_|refine X3 23 ?_|refine X3 24 ?_|(refine AQ 33 ?_);(refine An AA (V.len Tryz.underlying88 rfl) ?_;go_step)|(refine AQ 34 ?_);(refine An AA (V.geq rfl rfl) ?_;go_step)|refine Fe 38 ?_|refine OJ 2 ?_;clear hS;intro g2 w hS|refine YC 4 ?_;clear hS;intro g4 w hS|refine P8 ?_|refine Um ?_|refine AG ?_;go_step|fail)
 all_goals (try exact AR)
 refine AP [7,10] (fun w=>St w0 w [prt g2 [.val (.int .i64 m), .val (.int .i64 h), .val (.int .i64 p), .ints Q, .ints C1, .val (.slice a1 n1 k1), .ints C2, .val (.slice a2 n2 k2), .val (.int .i64 ev), .val (.slice ad nd kd)]]) AA ?_
 replace hS:=hS.drew
 focus
  refine be 0 ?_
  refine BZ 1 BN (V.fieldAddr QY rfl A7) ?_;go_step
  refine fO 2 [3,7,8,9,10] ?_
  refine be 4 ?_
  refine BZ 5 BN (V.fieldAddr QZ rfl A7) ?_;go_step
  refine fO 6 [7,8,9,10] ?_
  refine Av 3 ?_
  refine AY (f:=61) rfl Tryz.call61 (SI _ C1 S1 a1 n1 k1 hC1 (hs1.ext hS.1) (by omega)) ?_;rintro e w ⟨b1,j1,rfl,hS2⟩;replace hS:=hS.call1 hS2;clear hS2;refine ⟨_,rfl,?_⟩
  refine ⟨fun _ _=>hS.sub AV,?_⟩
  refine AI ?_
  go_step
  refine Av 7 ?_
  refine AY (f:=61) rfl Tryz.call61 (SI _ C2 S2 a2 n2 k2 hC2 (hs2.ext hS.1) (by omega)) ?_;rintro e w ⟨b2,j2,rfl,hS2⟩;replace hS:=hS.call1 hS2;clear hS2;refine ⟨_,rfl,?_⟩
  refine ⟨fun h=>absurd (by decide) h,?_⟩
  refine AI ?_
  go_step
  refine BV 8 _ Aj AA AA AA Be (V.build (vs:=[(0,tv C1 (.slice b1 n1 j1)),(1,tv C2 (.slice b2 n2 j2))]) rfl (T9 C1 C2 hC1.out hC2.out _ _ _ _ _ _)) AA ?_
  go_step
  refine be 9 ?_
  refine Av 10 ?_
  refine Hy hS 34 _ _ rfl g2 67 rfl 34 (AO rfl) _ _ [.ints C1, .val _, .ints C2, .val _] AL rfl (WI hQ hC1 hC2) (Vh hC1 hC2) rfl rfl ?_;clear hS;intro w hS
  refine ⟨fun h=>absurd (by decide) h,?_⟩
  refine AE AA ?_ _
 all_goals
  repeat' (first|(refine AG ?_;go_step)|fail)
  repeat' (first
   | refine X1 ?_|refine bV 51 ?_|(refine AQ 53 ?_);(refine An AA (V.len Tryz.underlying88 rfl) ?_;go_step)|refine Ug ?_;clear hS;intro w hS|refine AG ?_;go_step|fail)
  replace hS:=hS.nilk 5 1 .u8
  go_loopg [54] lo (fun gk kv w=>∃(i N:Nat) (bd:Option Addr) (jd:Nat),gk+i=lo∧kv= .int .i64 i∧(CC ps ms k i).length=N∧St w0 w [prt g2 [.val (.int .i64 m), .val (.int .i64 h), .val (.int .i64 p), .ints Q, .ints C1, .val (.slice b1 n1 j1), .ints C2, .val (.slice b2 n2 j2), .val (.int .i64 ev), .val (.slice bd N jd)],prt g4 [.val (.int .i64 0), .val (.int .i64 0), .val (.int .i64 0), .ints (List.replicate 64 0), .ints (List.replicate 16 0), .val (.slice none 0 0), .ints (List.replicate 16 0), .val (.slice none 0 0), .val (.int .i64 0), .val (.slice none 0 0)],own 5 1 bd N jd ((CC ps ms k i).map (Value.int .u8)),own 35 1 ao lo co (pcs.map Pc.val),own 3 1 am ms.length cm (ms.map (Value.int .i64)),star (pcs.map Pc.res),own 3 1 b1 n1 j1 (S1.map (Value.int .i64)),own 3 1 b2 n2 j2 (S2.map (Value.int .i64))])
  case atStart=>exact ⟨0,0,none,0,rfl,rfl,rfl,by rw [show CC ps ms k 0=[] from rfl];exact hS.sub AV⟩
  case round=>
   clear hS
   obtain ⟨i,N,bd,jd,hi,rfl,hN,hS⟩:=hrel
   by_cases hlt:i<lo
   ·have hN2:N≤200000:=by rw [←hN];exact HL.out i (by omega)
    have HN:=AD hN
    clear hN
    have hpl:pcs.length=ps.length:=by rw [←HPC.out,List.length_map]
    obtain ⟨px,hpx⟩:∃px,pcs[i]? =some px:=⟨_,List.getElem?_eq_getElem (by rw [hpl,HLP.out];exact hlt)⟩
    have hpv:(pcs.map Pc.val)[i]? =some (.slice px.ad px.xs.length px.c):=by rw [List.getElem?_map,hpx];rfl
    have hpm:px∈pcs:=List.mem_of_getElem? hpx
    have He:ps.getD i []=px.xs:=by rw [←HPC.out,List.getD,List.getElem?_map,hpx];rfl
    have hxl:px.xs.length≤200000:=HP.out _ (by rw [←HPC.out];exact List.mem_map_of_mem hpm)
    have HPS:=AD He
    obtain ⟨pn,hpn⟩:∃n,px.xs.length=n:=⟨_,rfl⟩
    rw [hpn] at hpv hxl
    have HPN:=AD hpn
    clear hpx He hpl hpn
    by_cases hi0:i=0
    ·have hDc:Hid (CC ps ms k i++(if i=0 then [] else [255,AJ ms (i-1)])=CC ps ms k i):=AD (by rw [if_pos hi0,List.append_nil])
     repeat' (first
      | refine X0 ?_|refine X5 55 ?_|(refine AQ 57 ?_);(refine LW hS rfl AL Tryz.underlying88 SB rfl A9 (by omega) (Nat.mul_one _) AA ?_;(first|(rintro b57 rfl)|(intro b57 hb57;cases hb57));go_step)|refine KN 60 ?_|refine dq ?_|refine AG ?_;go_step|fail)
     all_goals (try exact AR)
     obtain ⟨Dc,hDe⟩:∃X,CC ps ms k i=X:=⟨_,rfl⟩
     rw [hDe] at hS hDc
     have hNc:Hid (Dc.length=N):=AD (by rw [←hDe];exact HN.out)
     have HDE:=AD hDe
     have hDc:Hid (CC ps ms k i++(if i=0 then [] else [255,AJ ms (i-1)])=Dc):=AD (by rw [HDE.out];exact hDc.out)
     clear hDe HDE
     obtain ⟨Nc,rfl⟩:∃x,x=N:=⟨_,rfl⟩
     obtain ⟨bc,rfl⟩:∃x,x=bd:=⟨_,rfl⟩
     obtain ⟨jc,rfl⟩:∃x,x=jd:=⟨_,rfl⟩
     by_cases hik:i=k
     ·have hst:Hid (CC ps ms k (i+1)=Dc):=AD (by rw [CC,hDc.out,if_pos hik,List.append_nil])
      repeat' (first
       | refine X1 ?_|refine Fe 74 ?_|refine Mx 80 ?_|refine AG ?_;go_step|fail)
      all_goals (try exact AR)
      go_roundg (gk-1)
      case measure=>omega
      case rel=>exact ⟨i+1,Nc,bc,jc,by omega,by go_num,by rw [hst.out];exact hNc.out,by rw [hst.out];exact hS.sub AV⟩
     have hst:Hid (CC ps ms k (i+1)=Dc++px.xs):=AD (by rw [CC,hDc.out,if_neg hik,HPS.out])
     have hpx:=J5 hS AL hpm
     rw [Pc.val,HPN.out] at hpx
     repeat' (first
      | refine X1 ?_|refine Fe 74 ?_|refine bV 75 ?_|refine bV 79 ?_|refine Mx 80 ?_|refine Um ?_|refine bK 78 ?_;clear hS;intro ad78 c78 w hS|refine Ug ?_;clear hS;intro w hS|refine AG ?_;go_step|fail)
     all_goals (try exact AR)
     go_roundg (gk-1)
     case measure=>omega
     case rel=>exact ⟨i+1,Nc+pn,_,_,by omega,by go_num,by rw [hst.out,List.length_append,hNc.out,HPN.out],by rw [hst.out];exact hS.sub AV⟩
    obtain ⟨mk,hmk⟩:∃z,AJ ms (i-1)=z:=⟨_,rfl⟩
    obtain ⟨bm,rfl⟩:=Ba (a:=am) hS AL (by omega)
    have hmr:=HMB.out (i-1) (by omega)
    rw [hmk] at hmr
    have HW:=AD (u8_in hmr)
    have HMK:=AD hmk
    clear hmk
    repeat' (first
     | refine X0 ?_|refine X5 55 ?_|(refine AQ 57 ?_);(refine LW hS rfl AL Tryz.underlying88 SB rfl A9 (by omega) (Nat.mul_one _) AA ?_;(first|(rintro b57 rfl)|(intro b57 hb57;cases hb57));go_step)|refine KN 60 ?_|refine dq ?_|refine AG ?_;go_step|fail)
    all_goals (try exact AR)
    refine AP [9,11] (fun w=>St w0 w [prt g2 [.val (.int .i64 m), .val (.int .i64 h), .val (.int .i64 p), .ints Q, .ints C1, .val (.slice b1 n1 j1), .ints C2, .val (.slice b2 n2 j2), .val (.int .i64 ev), .val (.slice bd N jd)],own 3 1 (some ⟨bm,0,none⟩) ms.length cm (ms.map (Value.int .i64))]) AA ?_
    replace hS:=hS.drew
    focus
     refine dI 0 ?_
     refine dx 1 [9,10,11] ?_
     refine AZ 2 ?_
     refine AZ 3 ?_
     (refine BV 4 (.int _ (((i-1:Nat):Int))) Aj AA AA AA Be (V.as (V.subI rfl rfl (by omega)) (by omega)) AA ?_)
     go_step
     refine Y7 5 ?_
     refine dw 6 [7,8,9,10,11] ?_
     (refine BV 7 (.int _ (mk)) Aj AA AA AA Be (V.as (V.conv (by rw [Tryz.underlying3];rfl) Tryz.underlying5 rfl) (by (rw [HMK.out];exact HW.out))) AA ?_)
     go_step
     refine Av 8 ?_
     (refine AU (o:=⟨some 69,_,_,_,_,_⟩) hS 35 2 _ rfl 5 1 1 Hb _ _ (by (repeat (first|exact AW.nil|(apply AW.agg;(rfl);(rfl))|(apply AW.one;exact CI;(rfl);(rfl))))) (by rfl) (by decide) (by decide) ?_;clear hS;intro g69 w hS)
     refine ⟨fun _ _=>hS.sub AV,?_⟩
     refine AI ?_
     go_step
     refine Av 9 ?_
     (refine A4 (o:=⟨some 70,_,_,_,_,_⟩) hS _ _ 35 rfl 5 1 1 Hb _ _ _ _ rfl AL _ rfl _ _ (by (first|exact hS.slBlk AL (by rfl) (by decide)|exact hS.sl AL|with_reducible assumption|exact Sl.ext (by with_reducible assumption) hS.1|exact Sl.nil _ _|exact Sl.ext (by assumption) hS.1|assumption)) (by (first|exact CO rfl|exact Bu _ _|(intro u hu;cases hu))) (by unfold maxLen;omega) (by omega) ?_;clear hS;intro ad70 c70 w hS;(first|simp only [DM] at hS|simp only [DN] at hS|simp only [DO] at hS|simp only [DP] at hS|simp only [DQ] at hS|skip))
     refine ⟨fun h=>absurd (by decide) h,?_⟩
     refine AI ?_
     go_step
     refine dI 10 ?_
     refine Av 11 ?_
     refine Hz hS 35 _ _ rfl g2 102 rfl (AH rfl) _ _ AL _ CI rfl (WF hQ hC1 hC2) rfl ?_;clear hS;intro w hS
     refine ⟨fun h=>absurd (by decide) h,?_⟩
     refine AE AA ?_ _
    repeat' (first|(refine AG ?_;go_step)|fail)
    obtain ⟨Dc,hDe⟩:∃X,CC ps ms k i++[255,mk]=X:=⟨_,rfl⟩
    rw [hDe] at hS
    obtain ⟨Nc,hNe⟩:∃x,N+2=x:=⟨_,rfl⟩
    rw [hNe] at hS⊢
    have hNc:Hid (Dc.length=Nc):=AD (by rw [←hDe,←hNe,List.length_append,HN.out];rfl)
    have hDc:Hid (CC ps ms k i++(if i=0 then [] else [255,AJ ms (i-1)])=Dc):=AD (by rw [if_neg hi0,HMK.out];exact hDe)
    clear hDe
    have hNc2:Nc≤200002:=by omega
    clear hNe
    obtain ⟨bc,rfl⟩:∃x,x=ad70:=⟨_,rfl⟩
    obtain ⟨jc,rfl⟩:∃x,x=c70:=⟨_,rfl⟩
    by_cases hik:i=k
    ·have hst:Hid (CC ps ms k (i+1)=Dc):=AD (by rw [CC,hDc.out,if_pos hik,List.append_nil])
     repeat' (first
      | refine X1 ?_|refine Fe 74 ?_|refine Mx 80 ?_|refine AG ?_;go_step|fail)
     all_goals (try exact AR)
     go_roundg (gk-1)
     case measure=>omega
     case rel=>exact ⟨i+1,Nc,bc,jc,by omega,by go_num,by rw [hst.out];exact hNc.out,by rw [hst.out];exact hS.sub AV⟩
    have hst:Hid (CC ps ms k (i+1)=Dc++px.xs):=AD (by rw [CC,hDc.out,if_neg hik,HPS.out])
    have hpx:=J5 hS AL hpm
    rw [Pc.val,HPN.out] at hpx
    repeat' (first
     | refine X1 ?_|refine Fe 74 ?_|refine bV 75 ?_|refine bV 79 ?_|refine Mx 80 ?_|refine Um ?_|refine bK 78 ?_;clear hS;intro ad78 c78 w hS|refine Ug ?_;clear hS;intro w hS|refine AG ?_;go_step|fail)
    all_goals (try exact AR)
    go_roundg (gk-1)
    case measure=>omega
    case rel=>exact ⟨i+1,Nc+pn,_,_,by omega,by go_num,by rw [hst.out,List.length_append,hNc.out,HPN.out],by rw [hst.out];exact hS.sub AV⟩
   obtain rfl:lo=i:=by omega
   repeat' (first
    | refine X5 55 ?_|refine AG ?_;go_step|fail)
   all_goals (try exact AR)
   repeat' (first
    | refine X8 ?_|refine P8 ?_|refine YD ?_;clear hS;intro w hS|refine AG ?_;go_step|fail)
   refine AK (xs:=[_,_]) rfl (.cons (AC.prt hS rfl (AO (n:=103) rfl) AL (by (repeat (first|exact Bx.nil|(apply Bx.ints;(case hn=>exact EC);(case h=>omega);(case hm=>rfl))|apply Bx.val)))) (.cons (AC.tmp rfl) (.nil))) (by simp) rfl ?_
   exact ⟨b1,b2,bd,j1,j2,jd,N,hN,rfl,hS.sub AV⟩
theorem SE(C1 S1 C2 S2:List Int):∀(L:List (Nat×Nat))(ps:List (List Int))(k:Nat),(Le C1 S1 C2 S2 L ps k).1.length=(L.map fun x=>x.2-x.1).sum*64
 | [],_,_=>rfl
 | x::L,ps,k=>by
   have ih:=SE C1 S1 C2 S2 L ps.tail (k+1)
   have h1:(if (mR C1 S1 C2 S2 ps ((x.2-x.1:Nat):Int)).1=0 then (mR C1 S1 C2 S2 ps ((x.2-x.1:Nat):Int)).2 else BL (x.2-x.1)).length=(x.2-x.1)*64:=by
    split
    ·rename_i h0
     cases ps with
     | nil=>cases h0
     | cons p ps=>
       obtain ⟨n,e,_,hl⟩:=IU (show (E5 C1 S1 C2 S2 p ((x.2-x.1:Nat):Int)).1=0 from h0)
       rw [show (mR C1 S1 C2 S2 (p::ps) ((x.2-x.1:Nat):Int)).2=(E5 C1 S1 C2 S2 p ((x.2-x.1:Nat):Int)).2 from rfl,hl]
       congr 1;omega
    unfold BL;rw [List.length_replicate]
   rw [Le]
   dsimp only
   rw [List.length_append,h1,ih,List.map_cons,List.sum_cons,Nat.add_mul]
theorem ZG{C1 S1 C2 S2 b:List Int}{n:Nat}{every:Int}(h:(SS C1 S1 C2 S2 b n every).1=0):(SS C1 S1 C2 S2 b n every).2.1.length=n*64:=by
 unfold SS at h⊢
 by_cases hw:Lg C1 S1 C2 S2 b n every=0
 ·rw [if_pos hw] at h⊢
  split at h
  ·cases h
  dsimp only
  rw [SE,IZ,Int.toNat_natCast]
 rw [if_neg hw] at h;exact absurd h hw
noncomputable def Nh(f:CT):Int×List Int×List Int:=SS f.c1 f.s1 f.c2 f.s2 (D7 f) ((f.parts.toNat*Ae f.wide f.high:Nat):Int) f.every
noncomputable def Z1(f:CT):Int:=if CB f=0 then (Nh f).1 else CB f
noncomputable def cH(f:CT):List (List Int):=Ov f.wide f.high f.quant (Nh f).2.1 (Ae f.wide f.high) f.parts.toNat
def Ue(w0:World)(E m h:Int)(L:List (List Int))(bad:List Int)(e:Ending)(w:World):Prop:=
 (E≠0→e= .returned (.tuple #[eE, .slice none 0 0, .int .i64 E])∧Ai w0 w)∧
 (E=0→∃(a:Option Addr) (c:Nat) (R:List Rw) (ab:Option Addr) (cb nb:Nat),R.map (·.xs)=L∧bad.length=nb∧e= .returned (.tuple #[.agg #[.int .i64 m, .int .i64 h, .slice a R.length c], .slice ab nb cb, .int .i64 0])∧Ca w0 w a c R [own 3 1 ab nb cb (bad.map (Value.int .i64))])
theorem L4(w0:World)(f:CT)(a1 a2 ad:Option Addr)(n1 k1 n2 k2 nd kd:Nat)(hF:FM w0 f a1 a2 ad n1 k1 n2 k2 nd kd)(hml:∃m,w0.cell? ⟨0,0,none⟩=some (.int .i64 m)):
 Calls Tryz.prog 31 #[fv f (.slice a1 n1 k1) (.slice a2 n2 k2) (.slice ad nd kd)] w0 (Ue w0 (Z1 f) f.wide f.high (cH f) (Nh f).2.2):=by
 have hS:=St.start w0
 have HC:=AD fun (w:World)(hx:Ai w0 w)=>(hF.ext hx).chk
 obtain ⟨E,hE⟩:∃E,CB f=E:=⟨_,rfl⟩
 rw [hE] at HC
 by_cases hz:E=0
 case neg=>
  have HDE:=AD (show Z1 f=E by unfold Z1;rw [hE,if_neg hz])
  obtain ⟨L,hL⟩:∃L,cH f=L:=⟨_,rfl⟩
  obtain ⟨bad,hbad⟩:∃bad,(Nh f).2.2=bad:=⟨_,rfl⟩
  rw [hL,hbad]
  have hQ:=hF.q
  have hC1:=hF.l1
  have hC2:=hF.l2
  clear hF hL hbad hE hml
  obtain ⟨W,H,p,Q,C1,S1,C2,S2,ev,D⟩:=f
  dsimp only at hQ hC1 hC2⊢
  show Calls Tryz.prog 31 #[.agg (AF [.val (.int .i64 W), .val (.int .i64 H), .val (.int .i64 p), .ints Q, .ints C1, .val (.slice a1 n1 k1), .ints C2, .val (.slice a2 n2 k2), .val (.int .i64 ev), .val (.slice ad nd kd)]).toArray] _ _
  go_enter Tryz.func31,Tryz.ntmps31
  repeat' (first
   | (refine As 52 ?_);refine At AA Tryz.call52 (HC.out _ hS.1) (Fp hS ?_);clear hS;intro w hS;go_step|refine X0 ?_|refine X4 ?_|refine Xx 13 ?_|refine OJ 1 ?_;clear hS;intro g1 w hS|refine UU 2 ?_;clear hS;intro g2 w hS|refine P8 ?_|refine UV ?_;clear hS;intro w hS|refine AG ?_;go_step|fail)
  all_goals (try exact AR)
  refine AK (xs:=[_,_,_]) rfl (.cons (AC.blk hS rfl (AO (n:=3) rfl) AL rfl) (.cons (AC.tmp rfl) (.cons (AC.tmp rfl) (.nil)))) (by simp) rfl ?_
  exact ⟨fun _=>⟨by rw [HDE.out];rfl,hS.1⟩,fun h=>by rw [HDE.out] at h;exact absurd h hz⟩
 subst hz
 obtain ⟨⟨d1,d2,d3,d4⟩,hqk,e4,e5,hdl⟩:=Ol hE
 have hdl':nd≤1000000000:=by rw [←hF.dl];omega
 obtain ⟨np,hnp⟩:∃np:Nat,f.parts=(np:Int):=⟨f.parts.toNat,by omega⟩
 have hnp3:np=1∨np=3:=by omega
 have hsz:=fun w=>Mb w f.wide f.high ⟨d1.1,d1.2,d2.1,d2.2⟩ np (Ae f.wide f.high) (np*Ae f.wide f.high) (by omega) rfl rfl f.quant f.c1 f.c2 (.slice a1 n1 k1) (.slice a2 n2 k2) (.slice ad nd kd) f.every hF.q hF.l1 hF.l2
 have HSZ:=AD hsz
 have hpt:f.parts.toNat=np:=by omega
 have hdr:Nh f=SS f.c1 f.s1 f.c2 f.s2 (D7 f) ((np*Ae f.wide f.high:Nat):Int) f.every:=by unfold Nh;rw [hpt]
 have hdx:=ID hF.dlt
 have HSC:Hid (∀w,Ai w0 w→Calls Tryz.prog 57 #[.agg (AF [.ints f.c1, .val (.slice a1 n1 k1), .ints f.c2, .val (.slice a2 n2 k2)]).toArray, .slice ad nd kd, .int .i64 ((np*Ae f.wide f.high:Nat):Int), .int .i64 f.every] w (ME w (Nh f).1 (Nh f).2.1 (Nh f).2.2)):=fun w hx=>by
  rw [hdr]
  exact Ni w f.c1 f.c2 f.s1 f.s2 a1 a2 n1 n2 k1 k2 hF.l1 hF.l2 (hF.s1.ext hx) (hF.s2.ext hx) hF.b1 hF.b2 ad nd kd (D7 f) _ f.every hdl' (hF.sd.ext hx) hdx (hml.imp fun m h=>hx.cell h)
 have hlen:(Nh f).1=0→(Nh f).2.1.length=np*Ae f.wide f.high*64:=fun h=>by
  rw [hdr] at h⊢;exact ZG h
 have HLEN:=AD hlen
 have HDE:=AD (show Z1 f=(Nh f).1 by unfold Z1;rw [if_pos hE])
 have HDL:=AD (show cH f=Ov f.wide f.high f.quant (Nh f).2.1 (Ae f.wide f.high) np by unfold cH;rw [hpt])
 obtain ⟨D1,hD1⟩:∃x,(Nh f).1=x:=⟨_,rfl⟩
 obtain ⟨D2,hD2⟩:∃x,(Nh f).2.1=x:=⟨_,rfl⟩
 obtain ⟨D3,hD3⟩:∃x,(Nh f).2.2=x:=⟨_,rfl⟩
 rw [hD1] at HDE
 rw [hD2] at HDL
 rw [hD1,hD2,hD3] at HSC
 rw [hD1,hD2] at HLEN
 rw [hD3]
 obtain ⟨E,hEE⟩:∃x,Z1 f=x:=⟨_,rfl⟩
 obtain ⟨L,hL⟩:∃x,cH f=x:=⟨_,rfl⟩
 rw [hEE] at HDE⊢
 rw [hL] at HDL⊢
 have hQ:=hF.q
 have hC1:=hF.l1
 have hC2:=hF.l2
 clear e4 e5 hF hL hEE hE hml hdl hsz hdr hlen hD1 hD2 hD3 hdx hpt hqk d4 d3 hdl'
 obtain ⟨m,h,p,Q,C1,S1,C2,S2,ev,D⟩:=f
 dsimp only at hQ hC1 hC2 d1 d2 hnp HSZ HSC HLEN HDL⊢
 subst hnp
 have hok:1≤m∧m≤64∧1≤h∧h≤64:=⟨d1.1,d1.2,d2.1,d2.2⟩
 obtain ⟨q1,q2,q3⟩:=Dv hok
 obtain ⟨K,hK⟩:∃K,Ae m h=K:=⟨_,rfl⟩
 obtain ⟨M,hM⟩:∃M,np*K=M:=⟨_,rfl⟩
 rw [hK,hM] at HSZ HSC HLEN
 rw [hK] at HDL
 rw [hK] at q1 q2
 have hn1:M≤192:=by
  have:=Nat.mul_le_mul (show np≤3 by omega) q2
  omega
 have HK:=AD hK
 have HM:=AD hM
 clear q3 hK hM
 show Calls Tryz.prog 31 #[.agg (AF [.val (.int .i64 m), .val (.int .i64 h), .val (.int .i64 np), .ints Q, .ints C1, .val (.slice a1 n1 k1), .ints C2, .val (.slice a2 n2 k2), .val (.int .i64 ev), .val (.slice ad nd kd)]).toArray] _ _
 by_cases h0:D1=0
 ·subst h0
  go_enter Tryz.func31,Tryz.ntmps31
  repeat' (first
   | (refine As 52 ?_);refine At AA Tryz.call52 (HC.out _ hS.1) (Fp hS ?_);clear hS;intro w hS;go_step|refine X0 ?_|refine X4 ?_|refine OJ 1 ?_;clear hS;intro g1 w hS|refine UU 2 ?_;clear hS;intro g2 w hS|refine P8 ?_|refine AG ?_;go_step|fail)
  all_goals (try exact AR)
  refine AP [8] (fun w=>St w0 w [blk g2 [.int .i64 0, .int .i64 0, .slice none 0 0],prt g1 [.val (.int .i64 m), .val (.int .i64 h), .val (.int .i64 np), .ints Q, .ints C1, .val (.slice a1 n1 k1), .ints C2, .val (.slice a2 n2 k2), .val (.int .i64 ev), .val (.slice ad nd kd)]]) AA ?_
  replace hS:=hS.drew
  focus
   refine be 0 ?_
   refine Zs 1 [8,9,10,11,12,13,14,15] ?_
   refine dI 2 ?_
   refine dx 3 [8,9,10,11,12,13,14,15] ?_
   refine ea 4 [5,8,9,10,11,12,13,14,15] ?_
   refine BZ 6 BN (V.fieldAddr Kf rfl A7) ?_;go_step
   refine eb 7 [8,9,10,11,12,13,14,15] ?_
   refine Av 5 ?_
   refine AY (f:=53) rfl Tryz.call53 (HSZ.out _) ?_;rintro e w ⟨rfl,hE2⟩;replace hS:=hS.ext hE2;clear hE2;refine ⟨_,rfl,?_⟩
   refine ⟨fun _ _=>hS.sub AV,?_⟩
   refine AI ?_
   go_step
   refine Av 8 ?_
   refine AY (f:=57) rfl Tryz.call57 (HSC.out _ hS.1) ?_;rintro e w ⟨ao,co,mb,ab,cb,nb,hmb,hnb,rfl,hS2⟩;replace hS:=Dt hS hS2;clear hS2;have HMB:=AD hmb;have HNB:=AD hnb;clear hmb hnb;refine ⟨_,rfl,?_⟩
   refine ⟨fun h=>absurd (by decide) h,?_⟩
   refine AI ?_
   go_step
   refine AZ 9 ?_
   refine Y2 10 ?_
   refine Y2 11 ?_
   refine Y2 12 ?_
   refine AZ 13 ?_
   refine AZ 14 ?_
   refine AZ 15 ?_
   refine AE AA ?_ _
  all_goals
   repeat' (first|(refine AG ?_;go_step)|fail)
   obtain rfl:mb=M:=by
    have e1:=HMB.out
    have e2:=HLEN.out rfl
    omega
   have hcc:mb≤co∧co≤maxLen:=by
    obtain ⟨_,a9,c9,z2,z3,z4,_⟩:=hS.sl (a:=ao) AL
    cases z2
    exact ⟨z3,z4⟩
   obtain ⟨hcc1,hcc2⟩:=hcc
   repeat' (first
    | (refine As 54 ?_);refine At AA Tryz.call54 (Ma _ m h hok np hnp3 Q C1 C2 hQ hC1 hC2 _ _ _ ev K mb HK.out HM.out ao co hcc1 hcc2 D2 HMB.out (hS.sl AL)) ?_;rintro e w ⟨a9,c9,R9,hR9,rfl,hP9⟩;replace hS:=hS.call hP9;clear hP9;simp only [List.cons_append,List.nil_append] at hS;have HR9:=AD hR9;clear hR9;refine Ac ?_;go_step|refine X0 ?_|refine X4 ?_|refine UV ?_;clear hS;intro w hS|refine P8 ?_|refine AG ?_;go_step|fail)
   all_goals (try exact AR)
   refine AK (xs:=[_,_,_]) rfl (.cons (AC.blk hS rfl (AO (n:=3) rfl) AL rfl) (.cons (AC.tmp rfl) (.cons (AC.tmp rfl) (.nil)))) (by simp) rfl ?_
   refine ⟨fun h=>absurd HDE.out h,fun _=>⟨a9,c9,R9,ab,cb,nb,by rw [HR9.out,HDL.out],HNB.out,rfl,?_⟩⟩
   unfold Ca
   exact hS.sub AV
 go_enter Tryz.func31,Tryz.ntmps31
 repeat' (first
  | (refine As 52 ?_);refine At AA Tryz.call52 (HC.out _ hS.1) (Fp hS ?_);clear hS;intro w hS;go_step|refine X0 ?_|refine X4 ?_|refine OJ 1 ?_;clear hS;intro g1 w hS|refine UU 2 ?_;clear hS;intro g2 w hS|refine P8 ?_|refine AG ?_;go_step|fail)
 all_goals (try exact AR)
 refine AP [8] (fun w=>St w0 w [blk g2 [.int .i64 0, .int .i64 0, .slice none 0 0],prt g1 [.val (.int .i64 m), .val (.int .i64 h), .val (.int .i64 np), .ints Q, .ints C1, .val (.slice a1 n1 k1), .ints C2, .val (.slice a2 n2 k2), .val (.int .i64 ev), .val (.slice ad nd kd)]]) AA ?_
 replace hS:=hS.drew
 focus
  refine be 0 ?_
  refine Zs 1 [8,9,10,11,12,13,14,15] ?_
  refine dI 2 ?_
  refine dx 3 [8,9,10,11,12,13,14,15] ?_
  refine ea 4 [5,8,9,10,11,12,13,14,15] ?_
  refine BZ 6 BN (V.fieldAddr Kf rfl A7) ?_;go_step
  refine eb 7 [8,9,10,11,12,13,14,15] ?_
  refine Av 5 ?_
  refine AY (f:=53) rfl Tryz.call53 (HSZ.out _) ?_;rintro e w ⟨rfl,hE2⟩;replace hS:=hS.ext hE2;clear hE2;refine ⟨_,rfl,?_⟩
  refine ⟨fun _ _=>hS.sub AV,?_⟩
  refine AI ?_
  go_step
  refine Av 8 ?_
  refine AY (f:=57) rfl Tryz.call57 (HSC.out _ hS.1) ?_;rintro e w ⟨ao,co,mb,ab,cb,nb,hmb,hnb,rfl,hS2⟩;replace hS:=Dt hS hS2;clear hS2;have HMB:=AD hmb;have HNB:=AD hnb;clear hmb hnb;refine ⟨_,rfl,?_⟩
  refine ⟨fun h=>absurd (by decide) h,?_⟩
  refine AI ?_
  go_step
  refine AZ 9 ?_
  refine Y2 10 ?_
  refine Y2 11 ?_
  refine Y2 12 ?_
  refine AZ 13 ?_
  refine AZ 14 ?_
  refine AZ 15 ?_
  refine AE AA ?_ _
 all_goals
  repeat' (first|(refine AG ?_;go_step)|fail)
  repeat' (first
   | refine X0 ?_|refine X4 ?_|refine Xx 30 ?_|refine UV ?_;clear hS;intro w hS|refine AG ?_;go_step|fail)
  all_goals (try exact AR)
  refine AK (xs:=[_,_,_]) rfl (.cons (AC.blk hS rfl (AO (n:=3) rfl) AL rfl) (.cons (AC.tmp rfl) (.cons (AC.tmp rfl) (.nil)))) (by simp) rfl ?_
  exact ⟨fun _=>⟨by rw [HDE.out];rfl,hS.1⟩,fun h=>by rw [HDE.out] at h;exact absurd h h0⟩
end Go.Proofs.YtohacgmhmbijmaaGreatDoor
namespace Go.Proofs.YtohacgmhmbijmaaGreatDoor
attribute [local irreducible] Region.wanted
set_option linter.unusedVariables false
set_option maxRecDepth 100000
set_option maxHeartbeats 8000000
end Go.Proofs.YtohacgmhmbijmaaGreatDoor
namespace Go.Proofs.YtohacgmhmbijmaaGreatDoor
attribute [local irreducible] Region.wanted
open Go.RowKit
set_option linter.unusedVariables false
set_option maxRecDepth 100000
set_option maxHeartbeats 8000000
theorem RJ:Sn (List.replicate 64 0)=List.replicate 64 0:=by kernel_rfl
theorem Vv(g:Int→Int→Int)(b q:List Int)(hb:b.length=64)(hq:q.length=64)(i:Nat)(hi:i<64):AJ (EG g b q) i=g (AJ b i) (AJ q i):=by
 unfold EG AJ List.getD
 rw [List.getElem?_zipWith,List.getElem?_eq_getElem (by omega),List.getElem?_eq_getElem (by omega)]
 rfl
theorem Ze{q:List Int}(hq:q.length=64):OD (List.replicate 64 0) q=List.replicate 64 0:=by
 unfold OD
 by_cases h:(H4 q&&Bt (List.replicate 64 0) (-2047) 2047)=true
 ·rw [if_pos h]
  have hl:(EG dN (List.replicate 64 0) q).length=64:=by unfold EG;rw [List.length_zipWith,List.length_replicate,hq];rfl
  refine EV (by rw [hl,List.length_replicate]) fun i hi=>?_
  rw [hl] at hi
  rw [Vv _ _ _ List.length_replicate hq i hi,Ga _ _ _ hi]
  unfold dN
  rw [Int.zero_mul]
  rfl
 rw [if_neg h];rfl
theorem Wq{q:List Int}(hq:q.length=64):UJ q (List.replicate 64 0)=List.replicate 64 0:=by
 unfold UJ;rw [Ze hq,RJ]
 rfl
theorem MQ{m h:Int}{M:Nat}(hM:(M:Int)=m*h)(l:List Int):(DL l m h).length=M:=by
 unfold DL;rw [DS];omega
theorem Z3{R:List Rw}{x:List Int}(h:R.map (·.xs)=[x]):∃(a0:Option Addr) (k0:Nat),R=[⟨a0,k0,x⟩]:=by
 match R,h with
 | [⟨a0,k0,x0⟩],h=>
   simp only [List.map_cons,List.map_nil,List.cons.injEq,and_true] at h
   obtain rfl:=h
   exact ⟨a0,k0,rfl⟩
theorem YZ(w:World)(m h:Int)(hm: -9223372036854775808≤m∧m≤9223372036854775807)(a:Option Addr)(c:Nat)(R:List Rw)(hR:R.length≤9223372036854775807)(hP:BU w a c R)(q:List Int)(hq:Al q 64)(ev:Nat)(hev:ev≤100):
 Calls Tryz.prog 17 #[.agg #[.int .i64 m, .int .i64 h, .slice a R.length c], .agg (iv q), .int .i64 ev] w (Fr w (EZ m h q (R.map (·.xs)) ev) m h q R.length ev (P1 m h q (R.map (·.xs))) (R.length*Ae m h)):=by
 by_cases hz:Lu m h q (R.map (·.xs))=0
 ·exact JP w m h hm a c R hR hP q hq ev hev hz
 exact QT w m h hm a c R hR hP q hq ev (.inl hz)
theorem Tt{m h:Int}{q:List Int}{L:List (List Int)}{e:Int}(h0:EZ m h q L e=0):Lu m h q L=0:=by
 unfold EZ at h0
 by_cases hz:Lu m h q L=0
 ·exact hz
 rw [if_neg hz] at h0;exact absurd h0 hz
def aH(w:World)(m h:Int)(np:Nat)(q:List Int)(ev:Nat)(B:List Int)(n:Nat)(e:Ending)(w':World):Prop:=∃(C1 S1 C2 S2 D:List Int) (a1 a2 ad:Option Addr) (n1 k1 n2 k2 nd kd:Nat),Ud B n ev C1 S1 C2 S2 D∧e= .returned (.tuple #[.agg (AF [.val (.int .i64 m), .val (.int .i64 h), .val (.int .i64 np), .ints q, .ints C1, .val (.slice a1 n1 k1), .ints C2, .val (.slice a2 n2 k2), .val (.int .i64 ev), .val (.slice ad nd kd)]).toArray, .int .i64 0])∧St w w' [own 3 1 a1 n1 k1 (S1.map (Value.int .i64)),own 3 1 a2 n2 k2 (S2.map (Value.int .i64)),own 5 1 ad nd kd (D.map (Value.int .u8))]
theorem Fr.out{w:World}{m h:Int}{np ev n:Nat}{q B:List Int}{e:Ending}{w':World}(hh:Fr w 0 m h q np ev B n e w'):aH w m h np q ev B n e w':=by
 obtain ⟨C1,S1,C2,S2,D,a1,a2,ad,n1,k1,n2,k2,nd,kd,h1,_,_,_,h2,h3⟩:=hh.2 rfl
 exact ⟨C1,S1,C2,S2,D,a1,a2,ad,n1,k1,n2,k2,nd,kd,h1,h2,h3⟩
def aG(w:World)(m h:Int)(L:List (List Int))(e:Ending)(w':World):Prop:=∃(a:Option Addr) (c:Nat) (R:List Rw),R.map (·.xs)=L∧e= .returned (.tuple #[.agg #[.int .i64 m, .int .i64 h, .slice a R.length c], .int .i64 0])∧Ca w w' a c R []
def dP(m h:Int)(np:Nat)(q B:List Int)(n ev:Nat)(L:List (List Int)):Prop:=∀w (C1 S1 C2 S2 D:List Int) (a1 a2 ad:Option Addr) (n1 k1 n2 k2 nd kd:Nat),(∃m,w.cell? ⟨0,0,none⟩=some (.int .i64 m))→Ud B n ev C1 S1 C2 S2 D→Sl w 1 (.slice a1 n1 k1) n1 (S1.map (Value.int .i64))→Sl w 1 (.slice a2 n2 k2) n2 (S2.map (Value.int .i64))→Sl w 1 (.slice ad nd kd) nd (D.map (Value.int .u8))→Calls Tryz.prog 21 #[.agg (AF [.val (.int .i64 m), .val (.int .i64 h), .val (.int .i64 np), .ints q, .ints C1, .val (.slice a1 n1 k1), .ints C2, .val (.slice a2 n2 k2), .val (.int .i64 ev), .val (.slice ad nd kd)]).toArray] w (aG w m h L)
theorem bq{m h:Int}{q:List Int}{L:List (List Int)}{ev:Nat}(hq:Al q 64)(hev:ev≤100)(hz:Lu m h q L=0):dP m h L.length q (P1 m h q L) (L.length*Ae m h) ev (Ov m h q (P1 m h q L) (Ae m h) L.length):=by
 obtain ⟨hpz,hqk⟩:=Kg hz
 obtain ⟨hok,hlen,_⟩:=Ge hpz
 intro w C1 S1 C2 S2 D a1 a2 ad n1 k1 n2 k2 nd kd hm he s1 s2 sd
 exact Rm w hok hlen hq hqk hev rfl rfl (NO m h q hq L) (Hc m h q hq L) he s1 s2 sd hm
theorem IA{W w:World}{rs rs1:List Ar}{g k:Nat}{cs:List Value}{v:Value}(hS:St W w rs)(p:AT (blk g cs) rs rs1)(hk:cs[k]? =some v):w.cell? ⟨g,k,none⟩=some v:=by
 rw [(hS.blk p).1.cell];simpa using hk
theorem ZA{m h:Int}{p:List Int}{M:Nat}(hok:1≤m∧m≤64∧1≤h∧h≤64)(hM:(M:Int)=m*h){x:Nat}(hx:x<M):
 ∃k i:Nat,k<Ae m h∧i<64∧EB m x=(k:Int)∧Gr m x=(i:Int)∧AJ (Bi (Lp p m h) 64 k) i=AJ p x-128:=by
 have m0:1≤m∧m≤64:=⟨hok.1,hok.2.1⟩
 obtain ⟨a1,a2,a3,a4,a5,a6⟩:=GZ m h m0 ⟨hok.2.2.1,hok.2.2.2⟩ x (by omega)
 obtain ⟨e1,e2⟩:=O8 m (EB m x) (Gr m x) m0 x rfl rfl
 obtain ⟨k,hk⟩:∃k:Nat,EB m x=(k:Int):=⟨(EB m x).toNat,by omega⟩
 obtain ⟨i,hi⟩:∃i:Nat,Gr m x=(i:Int):=⟨(Gr m x).toNat,by omega⟩
 rw [hk,hi] at e1 e2
 refine ⟨k,i,by omega,by omega,hk,hi,?_⟩
 rw [Et _ _ _ _ (by omega),Lp,Gb _ _ _ (by omega),M0,show (k*64+i)/64=k by omega,show (k*64+i)%64=i by omega,e1,e2]
 have q3:=Int.emod_nonneg (x:Int) (b:=m) (by omega)
 have q6:=Int.mul_ediv_add_emod (x:Int) m
 rw [Int.mul_comm] at q6
 rw [show min ((x:Int)/m) (h-1)=(x:Int)/m by omega,show min ((x:Int)%m) (m-1)=(x:Int)%m by omega,q6,Int.toNat_natCast]
noncomputable def He(C1 S1 C2 S2 B:List Int)(n ev:Nat)(hurt:Nat→Bool):List (List Int):=((A5 n ev).zipIdx 0).map fun y=>if hurt y.2 then [] else C6 C1 S1 C2 S2 (Ap B y.1.1 y.1.2) (y.1.2-y.1.1)
noncomputable def ER(C1 S1 C2 S2 B:List Int)(n ev:Nat)(hurt:Nat→Bool):List Int:=In (He C1 S1 C2 S2 B n ev hurt) 0
theorem GX(C1 S1 C2 S2 B:List Int)(n ev:Nat)(hurt:Nat→Bool):(He C1 S1 C2 S2 B n ev hurt).length=(A5 n ev).length:=by unfold He;simp
theorem VY(C1 S1 C2 S2 B:List Int)(n ev:Nat):He C1 S1 C2 S2 B n ev (fun _=>false)=EE C1 S1 C2 S2 B (A5 n ev):=by
 unfold He EE
 refine List.ext_getElem (by simp) fun i h1 h2=>?_
 simp
theorem Qe{C1 S1 C2 S2 B:List Int}{n ev:Nat}{hurt:Nat→Bool}{q:List Int}(hq:q∈He C1 S1 C2 S2 B n ev hurt):q=[]∨q∈EE C1 S1 C2 S2 B (A5 n ev):=by
 unfold He at hq
 obtain ⟨y,hy,rfl⟩:=List.mem_map.1 hq
 split
 ·exact .inl rfl
 exact .inr (List.mem_map.2 ⟨y.1,List.fst_mem_of_mem_zipIdx hy,rfl⟩)
theorem Yi(C1 S1 C2 S2 B:List Int)(n ev:Nat)(hurt:Nat→Bool)(k:Nat):(He C1 S1 C2 S2 B n ev hurt).set k []=He C1 S1 C2 S2 B n ev fun i=>hurt i||i==k:=by
 unfold He
 refine List.ext_getElem (by simp) fun i h1 h2=>?_
 rw [List.getElem_set]
 simp only [List.getElem_map,List.getElem_zipIdx,Nat.zero_add]
 by_cases hk:k=i
 ·rw [if_pos hk];subst hk;simp
 rw [if_neg hk]
 have:(i==k)=false:=by simp;omega
 rw [this,Bool.or_false]
theorem Yj{C1 S1 C2 S2 B:List Int}{n ev:Nat}(h:GE C1 S1 C2 S2 B n ev)(hurt:Nat→Bool):∀q∈He C1 S1 C2 S2 B n ev hurt,∃c,q=Dg c:=fun q hq=>by
 rcases Qe hq with rfl|hq
 ·exact ⟨[],rfl⟩
 exact PM h q hq
theorem O0{C1 S1 C2 S2 B:List Int}{n ev:Nat}(h:GE C1 S1 C2 S2 B n ev)(hurt:Nat→Bool):Df (ER C1 S1 C2 S2 B n ev hurt) [] [] []=some (He C1 S1 C2 S2 B n ev hurt,NR 0 ((A5 n ev).length-1)):=by
 have h0:He C1 S1 C2 S2 B n ev hurt≠[]:=fun e=>by
  have:=congrArg List.length e
  rw [GX] at this
  exact Q4 n ev (List.eq_nil_of_length_eq_zero this)
 have:=SX (Yj h hurt) h0
 rw [GX] at this
 exact this
theorem NP(C1 S1 C2 S2 B:List Int)(n ev:Nat)(hurt:Nat→Bool):∀x∈ER C1 S1 C2 S2 B n ev hurt,0≤x∧x<256:=by
 refine Qj _ _ fun p hp x hx=>?_
 rcases Qe hp with rfl|hp
 ·cases hx
 obtain ⟨y,_,rfl⟩:=List.mem_map.1 hp
 exact SU x hx
theorem Yk{C1 S1 C2 S2 B:List Int}{n ev:Nat}(hl:B.length=n*64)(hurt:Nat→Bool):((He C1 S1 C2 S2 B n ev hurt).map List.length).sum≤448*n:=by
 unfold He
 rw [List.map_map]
 refine Nat.le_trans (Q8 _ (fun y=>y.1.2-y.1.1) 448 _ fun y hy=>?_) ?_
 ·obtain ⟨a1,a2⟩:=D5 n ev y.1 (List.fst_mem_of_mem_zipIdx hy)
  show (if hurt y.2 then [] else _).length≤_
  split
  ·exact Nat.zero_le _
  exact Nj (CE hl a1 a2)
 have e:((A5 n ev).zipIdx 0).map (fun y=>y.1.2-y.1.1)=(A5 n ev).map fun x=>x.2-x.1:=by
  refine List.ext_getElem (by simp) fun i h1 h2=>?_
  simp
 rw [e,IZ]
 exact Nat.le_refl _
theorem Oz{C1 S1 C2 S2 B:List Int}{n ev:Nat}(hl:B.length=n*64)(hurt:Nat→Bool):(ER C1 S1 C2 S2 B n ev hurt).length≤450*n+2:=by
 refine Nat.le_trans (Qi _ _) ?_
 have h1:=Yk (C1:=C1) (S1:=S1) (C2:=C2) (S2:=S2) (ev:=ev) hl hurt
 have h2:=Gi n ev
 rw [GX]
 omega
theorem O4:∀(l:List (List Int))(p:List Int)(k:Nat),In (l++[p]) k=In l k++(if k+l.length=0 then [] else [255,((208+(k+l.length-1)%8:Nat):Int)])++p
 | [],p,k=>by simp [In]
 | x::l,p,k=>by
   rw [List.cons_append,In,O4 l p (k+1),In,if_neg (show ¬k+1+l.length=0 by omega),if_neg (show ¬k+(x::l).length=0 by simp),List.length_cons,show k+1+l.length=k+(l.length+1) by omega]
   simp only [List.append_assoc]
theorem O1{ps:List (List Int)}{k:Nat}:∀i,i≤ps.length→CC ps (NR 0 (ps.length-1)) k i=In ((ps.set k []).take i) 0
 | 0,_=>rfl
 | i+1,h=>by
   have hl:i<(ps.set k []).length:=by rw [List.length_set];omega
   rw [CC,O1 i (by omega),List.take_add_one,List.getElem?_eq_getElem hl,Option.toList_some,O4,List.length_take,show min i (ps.set k []).length=i by omega]
   congr 1
   ·congr 1
    by_cases h0:i=0
    ·rw [if_pos h0,if_pos (by omega)]
    rw [if_neg h0,if_neg (by omega),NS (by omega),Nat.zero_add,Nat.zero_add]
   rw [List.getElem_set]
   by_cases hk:i=k
   ·rw [if_pos hk,if_pos hk.symm]
   rw [if_neg hk,if_neg (fun e=>hk e.symm),List.getD,List.getElem?_eq_getElem (by omega)]
   rfl
theorem Td{C1 S1 C2 S2 B:List Int}{n ev:Nat}{hurt:Nat→Bool}{k:Nat}:CC (He C1 S1 C2 S2 B n ev hurt) (NR 0 ((A5 n ev).length-1)) k (A5 n ev).length=ER C1 S1 C2 S2 B n ev fun i=>hurt i||i==k:=by
 have h:=O1 (ps:=He C1 S1 C2 S2 B n ev hurt) (k:=k) _ (Nat.le_refl _)
 rw [GX] at h
 rw [h,←GX C1 S1 C2 S2 B n ev hurt,List.take_of_length_le (by rw [List.length_set];exact Nat.le_refl _),Yi]
 rfl
theorem Q5{n:Nat}(hn:0<n)(ev:Nat):∀x∈A5 n ev,x.1<x.2∧x.2≤n:=by
 have key:∀f a,∀x∈Cm n ev f a,0<ev→x.1<x.2∧x.2≤n:=by
  intro f
  induction f with
  | zero=>intro a x hx;cases hx
  | succ f ih=>
    intro a x hx he
    rw [Cm] at hx
    split at hx
    ·rcases List.mem_cons.1 hx with rfl|hx
     ·dsimp only;omega
     exact ih _ x hx he
    cases hx
 intro x hx
 unfold A5 at hx
 split at hx
 ·simp only [List.mem_cons,List.not_mem_nil,or_false] at hx
  subst hx
  exact ⟨hn,Nat.le_refl _⟩
 exact key _ _ x hx (by omega)
theorem Qf{m h:Int}{np n K:Nat}{q B C1 S1 C2 S2:List Int}{ev:Nat}(hK:Ae m h=K)(hn:np*K=n)(hn0:0<n)(hn2:n≤192)(hev:ev≤100)(hB:B.length=n*64)(htb:D4 C1 S1 C2 S2=0)(hs:GE C1 S1 C2 S2 B n ev)(hurt:Nat→Bool)(hf:CB (Cs m h np q C1 S1 C2 S2 ev (ER C1 S1 C2 S2 B n ev hurt))=0):
 Z1 (Cs m h np q C1 S1 C2 S2 ev (ER C1 S1 C2 S2 B n ev hurt))=0∧
 cH (Cs m h np q C1 S1 C2 S2 ev (ER C1 S1 C2 S2 B n ev hurt))=Ov m h q (((A5 n ev).zipIdx 0).flatMap fun y=>if hurt y.2 then BL (y.1.2-y.1.1) else Ap B y.1.1 y.1.2) K np∧
 (Nh (Cs m h np q C1 S1 C2 S2 ev (ER C1 S1 C2 S2 B n ev hurt))).2.2=(((A5 n ev).zipIdx 0).filter fun y=>hurt y.2).map fun y=>(y.2:Int):=by
 have hsp:=O0 hs hurt
 have hDI:=FS m h np q C1 S1 C2 S2 ev (ER C1 S1 C2 S2 B n ev hurt) (NP _ _ _ _ _ _ _ _)
 have hR:Nh (Cs m h np q C1 S1 C2 S2 ev (ER C1 S1 C2 S2 B n ev hurt))=(0,Le C1 S1 C2 S2 (A5 n ev) (He C1 S1 C2 S2 B n ev hurt) 0):=by
  unfold Nh
  rw [hDI]
  show SS C1 S1 C2 S2 (ER C1 S1 C2 S2 B n ev hurt) (((np:Int).toNat*Ae m h:Nat):Int) ev=_
  rw [Int.toNat_natCast,hK,hn]
  unfold SS
  rw [if_pos (WA hev (by omega) htb hsp),hsp,Int.toNat_natCast,Int.toNat_natCast]
 have hm:=Vo C1 S1 C2 S2 B hB hurt (A5 n ev) 0 (He C1 S1 C2 S2 B n ev hurt) (Q5 hn0 ev) (fun x hx=>hs x hx) rfl
 rw [hm] at hR
 refine ⟨?_,?_,?_⟩
 ·unfold Z1;rw [if_pos hf,hR]
 ·unfold cH;rw [hR]
  show Ov m h q _ (Ae m h) (np:Int).toNat=_
  rw [hK,Int.toNat_natCast]
 rw [hR]
theorem TY{m h:Int}{np:Nat}{q C1 S1 C2 S2 D:List Int}{ev:Nat}(hok:1≤m∧m≤64∧1≤h∧h≤64)(hnp:np=1∨np=3)(hqk:H4 q=true)(hev:ev≤100)(h1:Ay C1 S1=0)(h2:Ay C2 S2=0)(hD:D.length≤90000):CB (Cs m h np q C1 S1 C2 S2 ev D)=0:=by
 unfold CB
 have hd:FT (Cs m h np q C1 S1 C2 S2 ev D):=by
  unfold FT Cs
  dsimp only
  omega
 rw [if_pos hd,if_pos (show H4 (Cs m h np q C1 S1 C2 S2 ev D).quant=true from hqk),if_pos (show Ay (Cs m h np q C1 S1 C2 S2 ev D).c1 (Cs m h np q C1 S1 C2 S2 ev D).s1=0 from h1),if_pos (show Ay (Cs m h np q C1 S1 C2 S2 ev D).c2 (Cs m h np q C1 S1 C2 S2 ev D).s2=0 from h2)]
 refine if_pos ?_
 show (D.map Int.toNat).length≤90000
 rw [List.length_map];exact hD
theorem PK{α:Type}(k:Nat):∀(l:List α)(j:Nat),j≤k→k<j+l.length→(((l.zipIdx j).filter fun y=>y.2==k).map fun y=>(y.2:Int))=[(k:Int)]
 | [],j,h1,h2=>by simp at h2;omega
 | x::l,j,h1,h2=>by
   rw [List.zipIdx_cons,List.filter_cons]
   by_cases hk:j=k
   ·subst hk
    have e:(l.zipIdx (j+1)).filter (fun y=>y.2==j)=[]:=by
     refine List.filter_eq_nil_iff.2 fun y hy=>?_
     obtain ⟨i,hi,rfl⟩:=List.getElem_of_mem hy
     simp
     omega
    simp [e]
   have h3:(j==k)=false:=by simpa using hk
   rw [List.length_cons] at h2
   simp only [h3]
   exact PK k l (j+1) (by omega) (by omega)
def Z4(ev b:Nat):Nat:=if ev=0 then 0 else b/ev
theorem cJ{ev k d:Nat}(he:0<ev)(h:d<ev):(k*ev+d)/ev=k:=by
 rw [Nat.add_comm,Nat.add_mul_div_right _ _ he,Nat.div_eq_of_lt h];omega
theorem SG{B:List Int}{f t x:Nat}(hx:x<(t-f)*64):AJ (Ap B f t) x=AJ B (f*64+x):=by
 unfold Ap AJ List.getD
 rw [List.getElem?_take,if_pos hx,List.getElem?_drop]
theorem Vu(a b:List Int)(x:Nat):AJ (a++b) x=if x<a.length then AJ a x else AJ b (x-a.length):=by
 unfold AJ List.getD
 split
 ·rename_i h;rw [List.getElem?_append_left h]
 rename_i h;rw [List.getElem?_append_right (by omega)]
theorem O2{B:List Int}{n ev:Nat}(hB:B.length=n*64)(he:0<ev)(hurt:Nat→Bool):∀(f k:Nat),n≤k*ev+f*ev→k*ev≤n→∀x,x<(n-k*ev)*64→
 AJ (((Cm n ev f (k*ev)).zipIdx k).flatMap fun y=>if hurt y.2 then BL (y.1.2-y.1.1) else Ap B y.1.1 y.1.2) x=if hurt ((k*ev+x/64)/ev) then 0 else AJ B (k*ev*64+x)
 | 0,k,h1,h2,x,hx=>by
   have:n-k*ev=0:=by omega
   rw [this] at hx;omega
 | f+1,k,h1,h2,x,hx=>by
   have hlt:k*ev<n:=by omega
   rw [Cm,if_pos hlt,List.zipIdx_cons,List.flatMap_cons]
   obtain ⟨t,ht⟩:∃t,min (k*ev+ev) n=t:=⟨_,rfl⟩
   rw [ht]
   obtain ⟨a,ha⟩:∃a,k*ev=a:=⟨_,rfl⟩
   have hka:(k+1)*ev=a+ev:=by rw [Nat.add_mul,Nat.one_mul,ha]
   have hl:(if hurt k then BL (t-a) else Ap B a t).length=(t-a)*64:=by
    split
    ·unfold BL;rw [List.length_replicate]
    exact CE hB (by omega) (by omega)
   have h1':n≤(k+1)*ev+f*ev:=by rw [Nat.add_mul (n:=f),Nat.one_mul] at h1;rw [Nat.add_mul,Nat.one_mul];omega
   rw [ha] at hx ht hlt h2⊢
   dsimp only
   rw [Vu,hl]
   by_cases hxt:x<(t-a)*64
   ·rw [if_pos hxt]
    have hd:(a+x/64)/ev=k:=by rw [←ha];exact cJ he (by omega)
    rw [hd]
    split
    ·unfold BL;rw [Ga _ _ _ hxt]
    exact SG hxt
   rw [if_neg hxt]
   have hte:t=a+ev:=by
    by_cases h9:a+ev≤n
    ·omega
    have:t=n:=by omega
    rw [this] at hxt;omega
   have ih:=O2 hB he hurt f (k+1) h1' (by rw [hka];omega) (x-(t-a)*64) (by rw [hka,hte];omega)
   rw [hka] at ih
   rw [ih,show a+ev+(x-(t-a)*64)/64=a+x/64 by rw [hte];omega,show (a+ev)*64+(x-(t-a)*64)=a*64+x by rw [hte];omega]
theorem Va{B:List Int}{n ev:Nat}(hB:B.length=n*64)(hn:0<n)(hurt:Nat→Bool)(x:Nat)(hx:x<n*64):
 AJ (((A5 n ev).zipIdx 0).flatMap fun y=>if hurt y.2 then BL (y.1.2-y.1.1) else Ap B y.1.1 y.1.2) x=if hurt (Z4 ev (x/64)) then 0 else AJ B x:=by
 unfold A5 Z4
 by_cases he:ev=0
 ·rw [if_pos (.inl he),if_pos he]
  simp only [List.zipIdx_cons,List.zipIdx_nil,List.flatMap_cons,List.flatMap_nil,List.append_nil]
  split
  ·unfold BL;rw [Ga _ _ _ (by omega)]
  rw [SG (by omega)];congr 1;omega
 rw [if_neg (by omega),if_neg he]
 have h:=O2 hB (by omega:0<ev) hurt n 0 (by rw [Nat.zero_mul,Nat.zero_add];exact Nat.le_mul_of_pos_right n (by omega)) (by omega) x (by omega)
 rw [Nat.zero_mul,Nat.zero_add,Nat.zero_mul,Nat.zero_add] at h
 exact h
theorem WC{m h:Int}{M n ev k:Nat}{q B L:List Int}(hok:1≤m∧m≤64∧1≤h∧h≤64)(hM:(M:Int)=m*h)(hq:q.length=64)(hn:Ae m h=n)(hB:B.length=n*64)(hLl:L.length=n*64)
 (hL:∀x,x<n*64→AJ L x=if Z4 ev (x/64)==k then 0 else AJ B x) (x:Nat) (hx:x<M):
 ∃b:Nat,b<n∧EB m x=(b:Int)∧AJ (DL (JG q L n) m h) x=if Z4 ev b=k then 128 else AJ (DL (JG q B n) m h) x:=by
 obtain ⟨b,i,h1,h2,h3,h4,_⟩:=ZA (p:=[]) hok hM hx
 rw [hn] at h1
 refine ⟨b,h1,h3,?_⟩
 have hs:∀Z:List Int,AJ (DL (JG q Z n) m h) x=min (max (AJ (UJ q (Bi Z 64 b)) i+128) 0) 255:=fun Z=>by
  unfold DL
  rw [Gb _ _ _ (by omega)]
  unfold Kk
  rw [h3,h4,show ((b:Int)*64+(i:Int)).toNat=b*64+i by omega,←Et _ _ _ _ h2,Sm _ _ _ _ h1]
 rw [hs L,hs B]
 have lB:=CP B 64 b n hB h1
 have lL:=CP L 64 b n hLl h1
 by_cases hk:Z4 ev b=k
 ·rw [if_pos hk]
  have e:Bi L 64 b=List.replicate 64 0:=by
   refine EV (by rw [lL,List.length_replicate]) fun j hj=>?_
   rw [lL] at hj
   rw [Et _ _ _ _ hj,hL _ (by omega),show (b*64+j)/64=b by omega,Ga _ _ _ hj,hk]
   simp
  rw [e,Wq hq,Ga _ _ _ h2]
  rfl
 rw [if_neg hk]
 have e:Bi L 64 b=Bi B 64 b:=by
  refine EV (by rw [lL,lB]) fun j hj=>?_
  rw [lL] at hj
  rw [Et _ _ _ _ hj,Et _ _ _ _ hj,hL _ (by omega),show (b*64+j)/64=b by omega,if_neg (by simpa using hk)]
 rw [e]
def eM(n ev:Nat):Nat:=if ev=0 then 1 else (n+ev-1)/ev
theorem PY{n ev:Nat}(he:0<ev):∀f a,n≤a+f*ev→(Cm n ev f a).length=(n-a+(ev-1))/ev
 | 0,a,h=>by
   rw [Cm,show n-a=0 by omega,Nat.zero_add]
   exact (Nat.div_eq_of_lt (by omega)).symm
 | f+1,a,h=>by
   have h2:n≤a+ev+f*ev:=by rw [Nat.add_mul,Nat.one_mul] at h;omega
   rw [Cm]
   split
   ·rw [List.length_cons,PY he f (a+ev) h2]
    by_cases hr:n-a≤ev
    ·rw [show n-(a+ev)=0 by omega,Nat.zero_add,Nat.div_eq_of_lt (show ev-1<ev by omega)]
     obtain ⟨d,hd⟩:∃d,n-a+(ev-1)=d+ev:=⟨n-a-1,by omega⟩
     rw [hd,Nat.add_div_right _ he,Nat.div_eq_of_lt (by omega)]
    obtain ⟨d,hd⟩:∃d,n-(a+ev)=d:=⟨_,rfl⟩
    rw [hd,show n-a+(ev-1)=d+(ev-1)+ev by omega,Nat.add_div_right _ he]
   rw [show n-a=0 by omega,Nat.zero_add]
   exact (Nat.div_eq_of_lt (by omega)).symm
theorem ZQ{n:Nat}(hn:0<n)(ev:Nat):(A5 n ev).length=eM n ev:=by
 unfold A5 eM
 by_cases he:ev=0
 ·rw [if_pos (.inl he),if_pos he];rfl
 rw [if_neg (by omega),if_neg he,PY (show 0<ev by omega) n 0 (by rw [Nat.zero_add];exact Nat.le_mul_of_pos_right n (show 0<ev by omega)),Nat.sub_zero]
 congr 1
 omega
theorem Yz(n ev:Nat)(hn:0<n∧n≤1000000)(he:ev≤1000000)(w0:World):Calls Tryz.prog 33 #[.int .i64 n, .int .i64 ev] w0 fun e w=>e= .returned (.int .i64 ((eM n ev:Nat):Int))∧Ai w0 w:=by
 have hS:=St.start w0
 obtain ⟨P,hP⟩:∃P,eM n ev=P:=⟨_,rfl⟩
 rw [hP]
 by_cases h0:ev=0
 ·subst h0
  obtain rfl:P=1:=by rw [←hP];rfl
  clear hP
  go_enter Tryz.func33,Tryz.ntmps33
  repeat' (first
   | go_skip|((first|(with_reducible refine Io ?_)|(with_reducible refine QC ?_));(first|go_big_want|go_step);go_step)|((with_reducible refine Ak _ (.pick _ _ _) ?_);(refine A6 rfl AA ?_;go_step))|((refine AQ 6 ?_);(refine CG _ (V.eql rfl rfl) AA (fun hB=>?_) (fun hB=>?_)<;>(try exact AR)<;>go_step))|(refine AG ?_;go_step)|fail)
  all_goals (try exact AR)
  go_ret
  exact ⟨rfl,hS.1⟩
 have hPe:((n:Int)+(ev:Int)-1)/(ev:Int)=(P:Int):=by
  rw [←hP]
  unfold eM
  rw [if_neg h0,show (n:Int)+(ev:Int)-1=((n+ev-1:Nat):Int) by omega,Int.natCast_ediv]
 clear hP
 go_enter Tryz.func33,Tryz.ntmps33
 repeat' (first
  | (refine AQ 16 ?_);(refine Ag (.int _ ((P:Int))) (V.as (V.quo rfl rfl (by omega) (by omega)) (by omega)) (by kernel_rfl) ?_;go_step)|refine X0 ?_|refine H7 ?_|refine H6 6 ?_ ?_<;>intro hB<;>(try exact AR)<;>go_step|refine KM 9 ?_|refine Mx 13 ?_|(refine AQ 14 ?_);(refine An AA (V.subI rfl rfl (by omega)) ?_;go_step)|refine AG ?_;go_step|fail)
 all_goals (try exact AR)
 go_ret
 exact ⟨rfl,hS.1⟩
def QW(m h:Int)(np:Nat)(q C1 C2:List Int)(ev n1 n2 N:Nat)(b1 b2 bd:Option Addr)(j1 j2 jd:Nat):Value:= .agg (AF [.val (.int .i64 m), .val (.int .i64 h), .val (.int .i64 np), .ints q, .ints C1, .val (.slice b1 n1 j1), .ints C2, .val (.slice b2 n2 j2), .val (.int .i64 ev), .val (.slice bd N jd)]).toArray
structure Eg(m h:Int)(np K n:Nat)(q B C1 S1 C2 S2:List Int)(ev:Nat):Prop where
 ok:1≤m∧m≤64∧1≤h∧h≤64
 gp:np=1∨np=3
 gK:Ae m h=K
 gn:np*K=n
 n0:0<n
 n2:n≤192
 gv:ev≤100
 gq:Al q 64
 qk:H4 q=true
 gB:B.length=n*64
 l1:Al C1 16
 l2:Al C2 16
 t1:Ay C1 S1=0
 t2:Ay C2 S2=0
 s:GE C1 S1 C2 S2 B n ev
theorem Eg.tb{m h:Int}{np K n ev:Nat}{q B C1 S1 C2 S2:List Int}(g:Eg m h np K n q B C1 S1 C2 S2 ev):D4 C1 S1 C2 S2=0:=by unfold D4;rw [if_pos g.t1];exact g.t2
theorem Eg.fe{m h:Int}{np K n ev:Nat}{q B C1 S1 C2 S2:List Int}(g:Eg m h np K n q B C1 S1 C2 S2 ev)(hurt:Nat→Bool):CB (Cs m h np q C1 S1 C2 S2 ev (ER C1 S1 C2 S2 B n ev hurt))=0:=
 TY g.ok g.gp g.qk g.gv g.t1 g.t2 (by have h1:=Oz (C1:=C1) (S1:=S1) (C2:=C2) (S2:=S2) (ev:=ev) g.gB hurt;have:=g.n2;omega)
theorem Eg.of{m h:Int}{np K n ev:Nat}{q B C1 S1 C2 S2 D:List Int}(ok:1≤m∧m≤64∧1≤h∧h≤64)(hnp:np=1∨np=3)(hK:Ae m h=K)(hn:np*K=n)(hev:ev≤100)(hq:Al q 64)(hqk:H4 q=true)(hB:B.length=n*64)(hab:Aw B n=true)(he:Ud B n ev C1 S1 C2 S2 D):Eg m h np K n q B C1 S1 C2 S2 ev∧D=ER C1 S1 C2 S2 B n ev (fun _=>false):=by
 obtain ⟨q1,q2,q3⟩:=Dv ok
 rw [hK] at q1 q2
 have hn1:n≤192:=by
  have:=Nat.mul_le_mul (show np≤3 by omega) q2
  omega
 have hn0:0<n:=by rw [←hn];exact Nat.mul_pos (by omega) (by omega)
 refine ⟨⟨ok,hnp,hK,hn,hn0,hn1,hev,hq,hqk,hB,he.l1,he.l2,he.m1.ok,he.m2.ok,JC hB (by omega) hab he.m1 he.m2⟩,?_⟩
 unfold ER
 rw [VY]
 exact he.d
theorem Eg.fm{m h:Int}{np K n ev:Nat}{q B C1 S1 C2 S2:List Int}(g:Eg m h np K n q B C1 S1 C2 S2 ev)(hurt:Nat→Bool){w:World}{b1 b2 bd:Option Addr}{n1 j1 n2 j2 N jd:Nat}(s1:Sl w 1 (.slice b1 n1 j1) n1 (S1.map (Value.int .i64)))(s2:Sl w 1 (.slice b2 n2 j2) n2 (S2.map (Value.int .i64)))(sd:Sl w 1 (.slice bd N jd) N ((ER C1 S1 C2 S2 B n ev hurt).map (Value.int .u8))):
 FM w (Cs m h np q C1 S1 C2 S2 ev (ER C1 S1 C2 S2 B n ev hurt)) b1 b2 bd n1 j1 n2 j2 N jd:=Rr g.gq g.l1 g.l2 (NP _ _ _ _ _ _ _ _) s1 s2 sd
theorem Kh{ps:List (List Int)}{ms:List Int}{k:Nat}:∀{i j:Nat},i≤j→(CC ps ms k i).length≤(CC ps ms k j).length
 | i,0,h=>by rw [show i=0 by omega];exact Nat.le_refl _
 | i,j+1,h=>by
   by_cases hij:i=j+1
   ·rw [hij];exact Nat.le_refl _
   have:=Kh (ps:=ps) (ms:=ms) (k:=k) (show i≤j by omega)
   rw [CC,List.length_append,List.length_append]
   omega
theorem Eg.hurt{m h:Int}{np K n ev:Nat}{q B C1 S1 C2 S2:List Int}(g:Eg m h np K n q B C1 S1 C2 S2 ev)(hu:Nat→Bool)(w:World)(b1 b2 bd:Option Addr)(n1 j1 n2 j2 N jd k:Nat)(hk:k<(A5 n ev).length)(s1:Sl w 1 (.slice b1 n1 j1) n1 (S1.map (Value.int .i64)))(s2:Sl w 1 (.slice b2 n2 j2) n2 (S2.map (Value.int .i64)))(sd:Sl w 1 (.slice bd N jd) N ((ER C1 S1 C2 S2 B n ev hu).map (Value.int .u8))):
 Calls Tryz.prog 34 #[QW m h np q C1 C2 ev n1 n2 N b1 b2 bd j1 j2 jd, .int .i64 k] w fun e w'=>∃(b1 b2 bd:Option Addr) (j1 j2 jd N:Nat),e= .returned (.tuple #[QW m h np q C1 C2 ev n1 n2 N b1 b2 bd j1 j2 jd, .int .i64 0])∧
  St w w' [own 3 1 b1 n1 j1 (S1.map (Value.int .i64)),own 3 1 b2 n2 j2 (S2.map (Value.int .i64)),own 5 1 bd N jd ((ER C1 S1 C2 S2 B n ev fun i=>hu i||i==k).map (Value.int .u8))]:=by
 have hl:=GX C1 S1 C2 S2 B n ev hu
 have hsp:=O0 g.s hu
 rw [←FS m h np q C1 S1 C2 S2 ev _ (NP _ _ _ _ _ _ _ _)] at hsp
 have hlen:=Gi n ev
 have hn2:=g.n2
 have hall:=Td (C1:=C1) (S1:=S1) (C2:=C2) (S2:=S2) (B:=B) (n:=n) (ev:=ev) (hurt:=hu) (k:=k)
 have hdl:=Oz (C1:=C1) (S1:=S1) (C2:=C2) (S2:=S2) (ev:=ev) g.gB fun i=>hu i||i==k
 have hmk:(NR 0 ((A5 n ev).length-1)).length=(A5 n ev).length-1:=by unfold NR;simp
 refine (Yl w _ b1 b2 bd n1 j1 n2 j2 N jd (g.fm hu s1 s2 sd) (g.fe hu) _ _ hsp (by rw [hmk,hl];omega) (fun i hi=>?_) k (by rw [hl];exact hk) (fun i hi=>?_) (fun x hx=>?_) (by rw [hl];omega)).mono fun e w' hh=>?_
 ·rw [hmk] at hi
  rw [NS hi]
  omega
 ·rw [hl] at hi
  have:=Kh (ps:=He C1 S1 C2 S2 B n ev hu) (ms:=NR 0 ((A5 n ev).length-1)) (k:=k) hi
  rw [hall] at this
  omega
 ·rcases Qe hx with rfl|hx
  ·exact Nat.zero_le _
  obtain ⟨y,hy,rfl⟩:=List.mem_map.1 hx
  obtain ⟨a1,a2⟩:=D5 n ev y hy
  have:=Nj (C1:=C1) (S1:=S1) (C2:=C2) (S2:=S2) (CE g.gB a1 a2)
  have h9:448*(y.2-y.1)≤448*192:=Nat.mul_le_mul_left _ (by omega)
  omega
 obtain ⟨b1,b2,bd,j1,j2,jd,N,h1,h2,h3⟩:=hh
 rw [hl,hall] at h1 h3
 exact ⟨b1,b2,bd,j1,j2,jd,N,h2,h3⟩
theorem Eg.saved{m h:Int}{np K n ev:Nat}{q B C1 S1 C2 S2:List Int}(g:Eg m h np K n q B C1 S1 C2 S2 ev)(hu:Nat→Bool)(w:World)(b1 b2 bd:Option Addr)(n1 j1 n2 j2 N jd:Nat)(s1:Sl w 1 (.slice b1 n1 j1) n1 (S1.map (Value.int .i64)))(s2:Sl w 1 (.slice b2 n2 j2) n2 (S2.map (Value.int .i64)))(sd:Sl w 1 (.slice bd N jd) N ((ER C1 S1 C2 S2 B n ev hu).map (Value.int .u8)))(hml:∃m,w.cell? ⟨0,0,none⟩=some (.int .i64 m)):
 Calls Tryz.prog 31 #[QW m h np q C1 C2 ev n1 n2 N b1 b2 bd j1 j2 jd] w fun e w'=>∃(a:Option Addr) (c:Nat) (R:List Rw) (ab:Option Addr) (cb nb:Nat),R.map (·.xs)=Ov m h q (((A5 n ev).zipIdx 0).flatMap fun y=>if hu y.2 then BL (y.1.2-y.1.1) else Ap B y.1.1 y.1.2) K np∧((((A5 n ev).zipIdx 0).filter fun y=>hu y.2).map fun y=>(y.2:Int)).length=nb∧e= .returned (.tuple #[.agg #[.int .i64 m, .int .i64 h, .slice a R.length c], .slice ab nb cb, .int .i64 0])∧
  Ca w w' a c R [own 3 1 ab nb cb (((((A5 n ev).zipIdx 0).filter fun y=>hu y.2).map fun y=>(y.2:Int)).map (Value.int .i64))]:=by
 obtain ⟨r1,r2,r3⟩:=Qf g.gK g.gn g.n0 g.n2 g.gv g.gB g.tb g.s hu (q:=q) (g.fe hu)
 refine (L4 w _ b1 b2 bd n1 j1 n2 j2 N jd (g.fm hu s1 s2 sd) hml).mono fun e w' hh=>?_
 obtain ⟨a,c,R,ab,cb,nb,h1,h2,h3,h4⟩:=hh.2 r1
 rw [r2] at h1
 rw [r3] at h2 h4
 exact ⟨a,c,R,ab,cb,nb,h1,h2,h3,h4⟩
end Go.Proofs.YtohacgmhmbijmaaGreatDoor
namespace Go.Proofs.YtohacgmhmbijmaaGreatDoor
attribute [local irreducible] Region.wanted
open Go.ChangeShapes Go.WideShapes Go.ChangeAt Go.RowKit
set_option linter.unusedVariables false
set_option maxRecDepth 100000
set_option maxHeartbeats 8000000
theorem V4{W:World}{base:Nat}{v:Value}(ho:Value.okWide Tryz.prog W .any base 26 v):
 ∃l:List Int,l.length=64∧v= .agg (iv l)∧∀i,i<64→ -9223372036854775808≤AJ l i∧AJ l i≤9223372036854775807:=by
 obtain ⟨l,hl,hv,hb⟩:=cE (ts:=List.replicate 64 3) (by rw [Tryz.underlying26]) AA (fun u hu=>by rw [List.eq_of_mem_replicate hu];exact Tryz.underlying3) ho
 have hc:Tryz.prog.cellsOf 26=64:=by kernel_rfl
 rw [hc] at hl
 exact ⟨l,hl,hv,fun i hi=>hb i (by omega)⟩
end Go.Proofs.YtohacgmhmbijmaaGreatDoor
