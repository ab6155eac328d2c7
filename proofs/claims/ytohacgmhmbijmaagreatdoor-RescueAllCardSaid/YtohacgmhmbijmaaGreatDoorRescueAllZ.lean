/- The law RescueAll: its walk, and the statement. -/
import Derived.Test.YtohacgmhmbijmaaGreatDoorBaseHZ2
import Derived.Test.YtohacgmhmbijmaaGreatDoorBaseHZ3
import Derived.Test.YtohacgmhmbijmaaGreatDoorBaseHZ4
import Derived.Test.YtohacgmhmbijmaaGreatDoorBaseHZ5
import Derived.Test.YtohacgmhmbijmaaGreatDoorBaseHZ11
import Derived.Test.YtohacgmhmbijmaaGreatDoorBaseHZ18
import Derived.Test.YtohacgmhmbijmaaGreatDoorRows
import Derived.Test.YtohacgmhmbijmaaGreatDoorCards
import Derived.Test.YtohacgmhmbijmaaGreatDoorTie
import Derived.Deep.DeepHandedRow
import Derived.Lay
import Derived.SevenTiedAt
namespace Go.Proofs.YtohacgmhmbijmaaGreatDoor
attribute [local irreducible] Region.wanted
open Go.ChangeShapes Go.WideShapes Go.ChangeAt Go.RowKit
set_option linter.unusedVariables false
set_option maxRecDepth 100000
set_option maxHeartbeats 8000000
theorem ZL{m h:Int}{q:List Int}{np K M:Nat}(ok:1≤m∧m≤64∧1≤h∧h≤64)(hM:(M:Int)=m*h)(hq:q.length=64)(hK:Ad m h=K)(hnp:np=1∨np=3):Nh m h q (List.replicate (np*K*64) 0) K np=List.replicate np (List.replicate M 128):=by
 have hj:=WI ok hM
 rw [hK] at hj
 have e:∀k,k<np→U4 m h q (List.replicate (np*K*64) 0) K k=List.replicate M 128:=fun k hk=>by
  unfold U4
  rw [List.drop_replicate,List.take_replicate]
  have h1:min (K*64) (np*K*64-k*K*64)=K*64:=by
   have h2:(k+1)*K≤np*K:=Nat.mul_le_mul_right _ hk
   rw [Nat.add_mul,Nat.one_mul] at h2
   omega
  rw [h1,QD hq K (Nat.le_refl _),hj]
 unfold Nh
 rw [Ig]
 have h0:(List.range np).map (U4 m h q (List.replicate (np*K*64) 0) K)=List.replicate np (List.replicate M 128):=by
  refine List.ext_getElem (by simp) fun i h1 h2=>?_
  rw [List.getElem_map,List.getElem_range,List.getElem_replicate]
  exact e i (by simpa using h1)
 rw [h0]
 rcases hnp with rfl|rfl
 ·rfl
 have hg:=UA (s:=List.replicate M 128) fun i hi=>by
  rw [List.length_replicate] at hi
  rw [C6 _ _ _ hi];omega
 rw [List.length_replicate] at hg
 exact hg
theorem KT{H:Type}{enc:TypeId×Value→H}{d0 d1 d2:DataW H}{p0 p1 p2:List MemPlace}{v0 v1 v2:Value}{base:Nat}(W:World)
 (o0:Value.okWide Tryz.prog W .any base 24 v0) (h0:DataW.Trod enc Tryz.prog W 0 (fun _=>true) true 24 v0 d0 p0) (lt0:∀x∈p0,x.block<W.heap.size)
 (o1:Value.okWide Tryz.prog W .any base 26 v1) (h1:DataW.Trod enc Tryz.prog W 0 (fun _=>true) true 26 v1 d1 p1) (lt1:∀x∈p1,x.block<W.heap.size)
 (o2:Value.okWide Tryz.prog W .any base 3 v2) (h2:DataW.Trod enc Tryz.prog W 0 (fun _=>true) true 3 v2 d2 p2) (lt2:∀x∈p2,x.block<W.heap.size)
 (hsh:W.ShapedOpen Tryz.prog):
 Calls Tryz.prog 11 #[v0,v1,v2] W fun e w'=>e= .returned (.bool true)∧Ai W w':=by
 obtain ⟨m,h,a,c,R,rfl,hm,hh,hRc,hcm,hPT⟩:=Wc o0 h0
 obtain ⟨q,hq,rfl,_⟩:=Pf o1
 obtain ⟨z1,rfl,_,_⟩:=RG Tryz.underlying3 o2 h2
 have hml:∃m,W.cell? ⟨0,0,none⟩=some (.int .i64 m):=Tryz.laysM185.s1_3 W hsh
 clear o0 h0 lt0 o1 h1 lt1 o2 h2 lt2 hsh
 have hS:=St.start W
 have HML:=AD hml
 have hRm:R.length≤9223372036854775807:=Nat.le_trans hRc hcm
 obtain ⟨ev,hev⟩:∃n:Nat,z1%101=(n:Int):=⟨(z1%101).toNat,by omega⟩
 have he:ev≤100:=by omega
 have HV:=AD fun (w:World)=>hev▸ Kn z1 w
 have hE1:=fun (w:World)(hx:Ai W w)=>SK w m h hm a c R hRm (hPT.ext hx) q hq ev he
 obtain ⟨E,hE⟩:∃E,EF m h q (R.map (·.xs)) ev=E:=⟨_,rfl⟩
 rw [hE] at hE1
 obtain ⟨np,hnp⟩:∃np,R.length=np:=⟨_,rfl⟩
 have hqL:Al q 64:=hq
 by_cases hz:E=0
 case neg=>
  rw [hnp] at hE1
  rw [hnp]
  have HE1:=AD fun w hx=>(hE1 w hx).mono fun e w' hh=>hh.1 hz
  clear hE1 hPT hE hml hnp hev
  go_enter Tryz.func11,Tryz.ntmps11
  repeat' (first
   | (refine Aq 15 ?_);refine As AA Tryz.call15 (EY _ (HML.out.imp fun m h=>hS.1.cell h)) (FT hS ?_);clear hS;intro w hS;go_step|(refine Aq 16 ?_);refine As AA Tryz.call16 (HV.out _) ?_;rintro e w' ⟨rfl,rfl⟩;refine Ac ?_;go_step|(refine Aq 17 ?_);refine As AA Tryz.call17 (HE1.out _ hS.1) ?_;rintro e w ⟨rfl,hE⟩;unfold gz;replace hS:=hS.ext hE;clear hE;refine Ac ?_;go_step|refine X0 ?_|refine Ym 24 ?_|refine X3 32 ?_|refine X3 33 ?_|refine E8 35 ?_|refine OY 3 ?_;clear hS;intro g3 w hS|refine L3 4 ?_;clear hS;intro g4 w hS|refine Tg ?_|refine I6 ?_|refine U3 7 ?_;clear hS;intro g7 w hS|refine Tf ?_;clear hS;intro w hS|refine AF ?_;go_step|fail)
  all_goals (try exact AQ)
  go_ret
  exact ⟨rfl,hS.1⟩
 subst hz
 have hfz:=Mm hE
 obtain ⟨hpz,hqk⟩:=IR hfz
 obtain ⟨hok,hlen,_⟩:=FK hpz
 rw [List.length_map,hnp] at hlen
 obtain ⟨K,hK⟩:∃K,Ad m h=K:=⟨_,rfl⟩
 obtain ⟨q1,q2,q3⟩:=DT hok
 rw [hK] at q1 q2 q3
 obtain ⟨n,hn⟩:∃n,np*K=n:=⟨_,rfl⟩
 have hBl:=KE m h q hq (R.map (·.xs))
 have hab:=Fg m h q hq (R.map (·.xs))
 rw [List.length_map,hnp,hK,hn] at hBl hab
 rw [hnp,hK,hn] at hE1
 rw [hnp]
 obtain ⟨B,hBe⟩:∃B,PE m h q (R.map (·.xs))=B:=⟨_,rfl⟩
 rw [hBe] at hE1 hBl hab
 have HE1:=AD fun w hx=>(hE1 w hx).mono fun e w' hh=>hh.out
 have HG:Hid (∀C1 S1 C2 S2 D,Uz B n ev C1 S1 C2 S2 D→Eg m h np K n q B C1 S1 C2 S2 ev∧D=Dj C1 S1 C2 S2 B n ev (fun _=>false)):=AD fun C1 S1 C2 S2 D he2=>Eg.of hok hlen hK hn he hq hqk hBl hab he2
 have hn1:n≤192:=by
  have:=Nat.mul_le_mul (show np≤3 by omega) q2
  omega
 have hn0:0<n:=by rw [←hn];exact Nat.mul_pos (by omega) (by omega)
 have hKn:(K:Int)*(np:Int)=(n:Int):=by rw [←hn,Nat.mul_comm,Int.natCast_mul]
 obtain ⟨k0,k1⟩:=EB m h 64 64 (by omega) (by omega)
 have k2:0<m*h:=Int.mul_pos (by omega) (by omega)
 obtain ⟨M,hM⟩:∃M:Nat,m*h=(M:Int):=⟨(m*h).toNat,by omega⟩
 have hMs:M≤4096:=by omega
 have HMID:=AD (ZL (np:=np) hok hM.symm hq hK hlen)
 rw [hn] at HMID
 obtain ⟨lp,hlp⟩:∃lp,(Az n ev).length=lp:=⟨_,rfl⟩
 have HPC:=AD fun (w:World)=>(by have:=Si n ev ⟨hn0,by omega⟩ (by omega) w;rw [←S9 hn0 ev,hlp] at this;exact this:Calls Tryz.prog 33 #[.int .i64 n, .int .i64 ev] w fun e w'=>e= .returned (.int .i64 (lp:Int))∧Ai w w')
 have HLP:=AD hlp
 have hlp2:lp≤200:=by have:=E5 n ev;omega
 have HQ3:=AD q3
 have hmr:=hok
 clear hE1 hPT hE hml hev hBe hBl hab hpz hqk hfz hK hn k0 k1 k2 hM hlp hnp q3
 go_enter Tryz.func11,Tryz.ntmps11
 repeat' (first
  | (refine Aq 15 ?_);refine As AA Tryz.call15 (EY _ (HML.out.imp fun m h=>hS.1.cell h)) (FT hS ?_);clear hS;intro w hS;go_step|(refine Aq 16 ?_);refine As AA Tryz.call16 (HV.out _) ?_;rintro e w' ⟨rfl,rfl⟩;refine Ac ?_;go_step|(refine Aq 17 ?_);refine As AA Tryz.call17 (HE1.out _ hS.1) ?_;rintro e w ⟨C1,S1,C2,S2,D,a1,a2,bd,n1,k1,n2,k2,nd,kd,hen,rfl,hS2⟩;replace hS:=hS.call hS2;clear hS2;simp only [List.cons_append,List.nil_append] at hS;have hC1:=hen.l1;have hC2:=hen.l2;have HEN:=AD hen;clear hen;refine Ac ?_;go_step|refine X0 ?_|refine Ym 24 ?_|refine X3 32 ?_|refine X3 33 ?_|refine E8 35 ?_|refine OY 3 ?_;clear hS;intro g3 w hS|refine L3 4 ?_;clear hS;intro g4 w hS|refine Tg ?_|refine I6 ?_|refine U3 7 ?_;clear hS;intro g7 w hS|refine Tf ?_;clear hS;intro w hS|refine AF ?_;go_step|fail)
 all_goals (try exact AQ)
 all_goals (try (have hF:False:=(hB rfl);cases hF))
 obtain ⟨hg,hD⟩:=HG.out C1 S1 C2 S2 D HEN.out
 subst hD
 have HGG:=AD hg
 clear hg HG HEN HE1
 repeat' (first
  | (refine AR 48 ?_);(refine Ag (.int _ ((n:Int))) (V.as (V.mulI rfl rfl (by omega)) (by omega)) (by kernel_rfl) ?_;go_step)|(refine Aq 32 ?_);refine As AA Tryz.call32 (Rk _ m h (by omega) (K:Int) HQ3.out) (FT hS ?_);clear hS;intro w hS;go_step|(refine Aq 33 ?_);refine As AA Tryz.call33 (HPC.out _) (FT hS ?_);clear hS;intro w hS;go_step|refine X0 ?_|(refine AR 37 ?_);(refine An AA (V.fieldAddr Ff rfl A7) ?_;go_step)|(refine AR 39 ?_);(refine An AA (V.fieldAddr JE rfl A7) ?_;go_step)|refine X3 42 ?_|refine X3 43 ?_|refine aK 45 ?_|refine Yk 47 ?_|refine X9 ?_|refine Xo ?_|refine AF ?_;go_step|fail)
 all_goals (try exact AQ)
 have HSV:Hid (∀w (b1 b2 bd:Option Addr) (j1 j2 N jd:Nat),Sl w 1 (.slice b1 n1 j1) n1 (S1.map (Value.int .i64))→Sl w 1 (.slice b2 n2 j2) n2 (S2.map (Value.int .i64))→Sl w 1 (.slice bd N jd) N ((Dj C1 S1 C2 S2 B n ev fun j=>decide (j<lp)).map (Value.int .u8))→(∃m,w.cell? ⟨0,0,none⟩=some (.int .i64 m))→
  Calls Tryz.prog 31 #[MD m h np q C1 C2 ev n1 n2 N b1 b2 bd j1 j2 jd] w fun e w'=>∃(a:Option Addr) (c:Nat) (R:List Rw) (ab:Option Addr) (cb:Nat) (X:List Value),R.map (·.xs)=List.replicate np (List.replicate M 128)∧e= .returned (.tuple #[.agg #[.int .i64 m, .int .i64 h, .slice a R.length c], .slice ab lp cb, .int .i64 0])∧CL w w' a c R [own 3 1 ab lp cb X]):=
  AD fun w b1 b2 bd j1 j2 N jd s1 s2 sd hm=>by
   refine (HGG.out.saved (fun j=>decide (j<lp)) w b1 b2 bd n1 j1 n2 j2 N jd s1 s2 sd hm).mono fun e w' hh=>?_
   obtain ⟨a,c,R,ab,cb,nb,r1,r2,r3,r4⟩:=hh
   obtain ⟨e1,e2⟩:=V8 (B:=B) (n:=n) (ev:=ev) (hurt:=fun j=>decide (j<lp)) fun k hk=>by rw [HLP.out] at hk;exact decide_eq_true hk
   rw [e1,HMID.out] at r1
   rw [e2,HLP.out] at r2
   subst r2
   exact ⟨a,c,R,ab,cb,_,r1,r3,r4⟩
 go_loopg [52] lp (fun gk kv w=>∃(i:Nat) (b1 b2 bd:Option Addr) (j1 j2 jd N:Nat),gk+i=lp∧kv= .int .i64 i∧St W w [blk g3 [.int .i64 m, .int .i64 h, .slice a np c],arr g4 64 q,prt g7 [.val (.int .i64 m), .val (.int .i64 h), .val (.int .i64 np), .ints q, .ints C1, .val (.slice b1 n1 j1), .ints C2, .val (.slice b2 n2 j2), .val (.int .i64 ev), .val (.slice bd N jd)],own 3 1 b1 n1 j1 (S1.map (Value.int .i64)),own 3 1 b2 n2 j2 (S2.map (Value.int .i64)),own 5 1 bd N jd ((Dj C1 S1 C2 S2 B n ev fun j=>decide (j<i)).map (Value.int .u8))])
 case atStart=>exact ⟨0,_,_,_,_,_,_,_,rfl,rfl,by rw [show (fun j=>decide (j<0))=fun _:Nat=>false from funext fun j=>by simp];exact hS.sub AV⟩
 case round=>
  clear hS
  obtain ⟨i,b1,b2,bd,j1,j2,jd,N,hi,rfl,hS⟩:=hrel
  by_cases hlt:i<lp
  ·have HF:=AD (show (fun j=>decide (j<i)||j==i)=fun j:Nat=>decide (j<i+1) from funext fun j=>by rw [Bool.eq_iff_iff];simp;omega)
   repeat' (first
    | (refine Aq 34 ?_);refine As AA Tryz.call34 (HGG.out.hurt (fun j=>decide (j<i)) _ b1 b2 bd n1 j1 n2 j2 N jd i (by rw [HLP.out];exact hlt) (hS.sl AL) (hS.sl AL) (hS.sl AL)) ?_;rintro e w ⟨d1,d2,dd,i1,i2,id9,N9,rfl,hS2⟩;unfold MD;replace hS:=hS.call hS2;clear hS2;simp only [List.cons_append,List.nil_append] at hS;refine Ac ?_;go_step|refine X0 ?_|refine X4 53 ?_|refine X3 59 ?_|refine X3 60 ?_|refine E8 62 ?_|refine Ob ?_|refine Tf ?_;clear hS;intro w hS|refine AF ?_;go_step|fail)
   all_goals (try exact AQ)
   all_goals (try (have hF:False:=(hB rfl);cases hF))
   repeat' (first
    | refine X1 ?_|refine Ls 63 ?_|refine AF ?_;go_step|fail)
   go_roundg (gk-1)
   case measure=>omega
   case rel=>exact ⟨i+1,d1,d2,dd,i1,i2,id9,N9,by omega,by go_num,by rw [HF.out] at hS;exact hS.sub AV⟩
  obtain rfl:lp=i:=by omega
  repeat' (first
   | refine X4 53 ?_|refine AF ?_;go_step|fail)
  all_goals (try exact AQ)
  repeat' (first
   | (refine Aq 34 ?_);refine As AA Tryz.call34 (HGG.out.out (fun j=>decide (j<lp)) _ b1 b2 bd n1 j1 n2 j2 N jd lp HLP.out.symm (hS.sl AL) (hS.sl AL) (hS.sl AL)) ?_;rintro e w ⟨rfl,hE⟩;unfold gz;replace hS:=hS.ext hE;clear hE;refine Ac ?_;go_step|(refine Aq 31 ?_);refine As AA Tryz.call31 (HSV.out _ b1 b2 bd j1 j2 N jd (hS.sl AL) (hS.sl AL) (hS.sl AL) (HML.out.imp fun m h=>hS.1.cell h)) ?_;rintro e w ⟨a5,c5,R5,ab,cb,X5,hR5,rfl,hP9⟩;replace hS:=hS.call hP9;clear hP9;simp only [List.cons_append,List.nil_append] at hS;have HR5:=AD hR5;clear hR5;refine Ac ?_;go_step|refine X0 ?_|refine X3 68 ?_|refine X3 69 ?_|refine X3 73 ?_|refine X3 74 ?_|refine X3 75 ?_|refine Ob ?_|refine U3 14 ?_;clear hS;intro g14 w hS|refine Tf ?_;clear hS;intro w hS|refine Tc 16 ?_;clear hS;intro g16 w hS|refine Td ?_;clear hS;intro w hS|refine AF ?_;go_step|fail)
  all_goals (try exact AQ)
  have hPI:=BQ.of (a:=a5) (c:=c5) (R:=R5) hS AL AL
  have hRl:R5.length=np:=by have:=congrArg List.length HR5.out;rw [List.length_map,List.length_replicate] at this;exact this
  have h16:w.cell? ⟨g16,2,none⟩=some (.slice a5 R5.length c5):=FH (g:=g16) (k:=2) hS AL rfl
  have h3:w.cell? ⟨g3,2,none⟩=some (.slice a np c):=FH (g:=g3) (k:=2) hS AL rfl
  have hE9:=hS.1
  obtain ⟨bb,off,rfl,hcl⟩:=DZ hPI.sl (by omega)
  have hrow:∀k,k<np→∃(ra:Option Addr) (rc:Nat),w.cell? ⟨bb,off+k,none⟩=some (.slice ra M rc)∧Sl w 1 (.slice ra M rc) M ((List.replicate M 128).map (Value.int .i64)):=fun k hk=>by
   have hk5:k<R5.length:=by omega
   have e1:R5[k].xs=List.replicate M 128:=by
    have e2:(R5.map (·.xs))[k]? =some (List.replicate M 128):=by rw [HR5.out,List.getElem?_replicate,if_pos hk]
    rw [List.getElem?_map,List.getElem?_eq_getElem hk5] at e2
    exact Option.some.inj e2
   have e3:=hPI.row R5[k] (List.getElem_mem hk5)
   have e4:=hcl k (Rw.val R5[k]) (by rw [List.getElem?_map,List.getElem?_eq_getElem hk5];rfl)
   rw [Rw.val,e1,List.length_replicate] at e3 e4
   exact ⟨_,_,e4,e3⟩
  rw [hRl] at h16
  have HROW:=AD hrow
  clear hS hPI hcl hrow HSV HGG hC1 hC2 HPC HV
  obtain ⟨W1,hW1⟩:∃z,z=w:=⟨w,rfl⟩
  subst hW1
  have hS:=St.start W1
  repeat' (first
   | refine X1 ?_|refine IE ?_|refine FW 77 ?_ ?_<;>intro hB<;>(try exact AQ)<;>go_step|refine FW 80 ?_ ?_<;>intro hB<;>(try exact AQ)<;>go_step|refine QS 84 ?_|refine E8 86 ?_|refine AF ?_;go_step|fail)
  all_goals (try exact AQ)
  all_goals (try (have hF:False:=(hB rfl);cases hF))
  repeat' (first
   | refine X1 ?_|refine aK 88 ?_|refine Yk 90 ?_|refine bX ?_|refine AF ?_;go_step|fail)
  go_loopg [91] np (fun gk kv w=>∃k:Nat,gk+k=np∧kv= .int .i64 k∧St W1 w [])
  case atStart=>exact ⟨0,rfl,rfl,hS⟩
  case round=>
   clear hS
   obtain ⟨k,hk,rfl,hS⟩:=hrel
   by_cases hlk:k<np
   ·obtain ⟨ra,rc,hc1,hv1⟩:=HROW.out k hlk
    obtain ⟨gk1,hgk1⟩:∃x,x=gk:=⟨_,rfl⟩
    subst hgk1
    repeat' (first
     | refine X0 ?_|refine X4 92 ?_|refine aL 93 ?_|refine QS 96 ?_|refine Yj ?_|refine AF ?_;go_step|fail)
    all_goals (try exact AQ)
    go_loopg [97] M (fun gk jv w=>∃j:Nat,gk+j=M∧jv= .int .i64 j∧St W1 w [])
    case atStart=>exact ⟨0,rfl,rfl,hS⟩
    case round=>
     clear hS
     obtain ⟨j,hj,rfl,hS⟩:=hrel
     by_cases hlj:j<M
     ·have hvk:AJ (List.replicate M (128:Int)) j=128:=C6 _ _ _ hlj
      repeat' (first
       | refine X0 ?_|refine X4 98 ?_|refine VF 99 ?_;intro b99 o99 hc99;go_step|refine E8 102 ?_|refine Ls 103 ?_|refine VP ?_|refine AF ?_;go_step|fail)
      all_goals (try exact AQ)
      go_roundg (gk-1)
      case measure=>omega
      case rel=>exact ⟨j+1,by omega,by go_num,hS.sub AV⟩
     obtain rfl:M=j:=by omega
     repeat' (first
      | refine X4 98 ?_|refine AF ?_;go_step|fail)
     all_goals (try exact AQ)
     repeat' (first
      | refine X1 ?_|refine Ls 104 ?_|refine AF ?_;go_step|fail)
     go_roundg (gk1-1)
     case measure=>omega
     case rel=>exact ⟨k+1,by omega,by go_num,hS.sub AV⟩
   obtain rfl:k=np:=by omega
   repeat' (first
    | refine X4 92 ?_|refine AF ?_;go_step|fail)
   all_goals (try exact AQ)
   repeat' (first
    | refine X8 ?_|refine aK 105 ?_|refine Yk 107 ?_|refine aK 108 ?_|refine Yk 110 ?_|refine J6 111 ?_|refine bX ?_|refine AF ?_;go_step|fail)
   go_ret
   exact ⟨Cx (decide_eq_true trivial),hE9.trans hS.1⟩
def Cd:Array Value:=#[.agg #[.int .i64 0, .int .i64 0, .slice none 0 0], .agg #[.int .i64 0, .int .i64 0, .int .i64 0, .int .i64 0, .int .i64 0, .int .i64 0, .int .i64 0, .int .i64 0, .int .i64 0, .int .i64 0, .int .i64 0, .int .i64 0, .int .i64 0, .int .i64 0, .int .i64 0, .int .i64 0, .int .i64 0, .int .i64 0, .int .i64 0, .int .i64 0, .int .i64 0, .int .i64 0, .int .i64 0, .int .i64 0, .int .i64 0, .int .i64 0, .int .i64 0, .int .i64 0, .int .i64 0, .int .i64 0, .int .i64 0, .int .i64 0, .int .i64 0, .int .i64 0, .int .i64 0, .int .i64 0, .int .i64 0, .int .i64 0, .int .i64 0, .int .i64 0, .int .i64 0, .int .i64 0, .int .i64 0, .int .i64 0, .int .i64 0, .int .i64 0, .int .i64 0, .int .i64 0, .int .i64 0, .int .i64 0, .int .i64 0, .int .i64 0, .int .i64 0, .int .i64 0, .int .i64 0, .int .i64 0, .int .i64 0, .int .i64 0, .int .i64 0, .int .i64 0, .int .i64 0, .int .i64 0, .int .i64 0, .int .i64 0], .int .i64 0]
theorem Lz:ownKnob Tryz.prog.godebug=none:=by kernel_rfl
theorem DO:laidOutB Tryz.prog=true:=by kernel_rfl
theorem Ly(os:Os)(args:Array Value):laidMetH Tryz.prog Rows.rescueAllRow.laid ((World.laidAll Tryz.prog os Rows.rescueAllRow.laid).forCall (fun _ _=>0) ⟨#[],args,[]⟩).memory:=by
 rw [MakeChecks.laidMetH_plain _ _ _ AA];exact laidMet_laidAll _ AA AA
theorem Ju(os:Os){H:Type}(enc:TypeId×Value→H):∃places,DataW.whole enc Tryz.prog ((World.laidAll Tryz.prog os Rows.rescueAllRow.laid).forCall (fun _ _=>0) ⟨#[],Cd,[]⟩).memory Tryz.f11.params.toList Rows.rescueAllSpec.vars false (Cd:Array Value).toList 8=some ([.agg [.lit (.int .i64 0), .lit (.int .i64 0), .nil], .agg [.lit (.int .i64 0), .lit (.int .i64 0), .lit (.int .i64 0), .lit (.int .i64 0), .lit (.int .i64 0), .lit (.int .i64 0), .lit (.int .i64 0), .lit (.int .i64 0), .lit (.int .i64 0), .lit (.int .i64 0), .lit (.int .i64 0), .lit (.int .i64 0), .lit (.int .i64 0), .lit (.int .i64 0), .lit (.int .i64 0), .lit (.int .i64 0), .lit (.int .i64 0), .lit (.int .i64 0), .lit (.int .i64 0), .lit (.int .i64 0), .lit (.int .i64 0), .lit (.int .i64 0), .lit (.int .i64 0), .lit (.int .i64 0), .lit (.int .i64 0), .lit (.int .i64 0), .lit (.int .i64 0), .lit (.int .i64 0), .lit (.int .i64 0), .lit (.int .i64 0), .lit (.int .i64 0), .lit (.int .i64 0), .lit (.int .i64 0), .lit (.int .i64 0), .lit (.int .i64 0), .lit (.int .i64 0), .lit (.int .i64 0), .lit (.int .i64 0), .lit (.int .i64 0), .lit (.int .i64 0), .lit (.int .i64 0), .lit (.int .i64 0), .lit (.int .i64 0), .lit (.int .i64 0), .lit (.int .i64 0), .lit (.int .i64 0), .lit (.int .i64 0), .lit (.int .i64 0), .lit (.int .i64 0), .lit (.int .i64 0), .lit (.int .i64 0), .lit (.int .i64 0), .lit (.int .i64 0), .lit (.int .i64 0), .lit (.int .i64 0), .lit (.int .i64 0), .lit (.int .i64 0), .lit (.int .i64 0), .lit (.int .i64 0), .lit (.int .i64 0), .lit (.int .i64 0), .lit (.int .i64 0), .lit (.int .i64 0), .lit (.int .i64 0)], .lit (.int .i64 0)],[],places):=
 ⟨[],by kernel_rfl⟩
theorem I2(os:Os)(started:os.Started)(H:Type)(enc:TypeId×Value→H)(F:Stop.Interp):
 ReturnsInHanded {} Tryz.checked os 11 .any ((OpenSpec.ofChange Rows.rescueAllSpec).preRow enc Tryz.prog Tryz.f11 Rows.rescueAllRow.domain false Rows.rescueAllRow.laid) (((OpenSpec.ofChange Rows.rescueAllSpec).at F).post enc Tryz.prog Tryz.f11 false true false false):=by
 obtain ⟨places,hx⟩:=Ju os enc
 have hok:Input.okWideB Tryz.prog ((World.laidAll Tryz.prog os Rows.rescueAllRow.laid).forCall (fun _ _=>0) ⟨#[],Cd,[]⟩) 11 ⟨#[],Cd,[]⟩=true:=by kernel_rfl
 refine returnsInHanded_of_row (C:=Tryz.checked) (s:=OpenSpec.ofChange Rows.rescueAllSpec) Lz started AA Tryz.func11
  ⟨(World.laidAll Tryz.prog os Rows.rescueAllRow.laid),fun _ _=>0,⟨#[],Cd,[]⟩,World.laidAll_os _ _ _,World.shaped_of_ZipB AA AA,(Input.okWide_of_okWideB (base:=0) hok).1,(Input.okWide_of_okWideB hok).2,
   OpenSpec.preRow_of_cond 8 hx AA (fun k hk=>by cases hk) AA (Ly os _),by
   simp only [Assume.holds]
   exact ⟨by simp,by simp,by simp,by simp,by simp⟩⟩ ?_
 intro W base args ds gs before hval0 hW _ hk _ hL hsh _
 have hval:∀(j:Nat) t v,Tryz.f11.params[j]? =some t→args[j]? =some v→Value.okWide Tryz.prog W .any base t v:=hval0
 have hW':=hW
 obtain ⟨p,q,hA0,hV,rfl,hfz,hnd⟩:=hW
 have hA:DataW.TrodAll enc Tryz.prog W 0 (fun _=>true) true Tryz.f11.params.toList args.toList ds p:=hA0
 rw [Tryz.params11] at hA hval
 obtain ⟨v0,vs0,d0,ds0,p0,q0,hargs,rfl,rfl,h0,r0⟩:=trodAll_cons hA
 obtain ⟨v1,vs1,d1,ds1,p1,q1,rfl,rfl,rfl,h1,r1⟩:=trodAll_cons r0
 obtain ⟨v2,vs2,d2,ds2,p2,q2,rfl,rfl,rfl,h2,r2⟩:=trodAll_cons r1
 obtain ⟨rfl,rfl,rfl⟩:=trodAll_nil r2
 obtain rfl:args=#[v0,v1,v2]:=by cases args;simp_all
 obtain ⟨rfl,rfl⟩:=trodVars_none hV
 have lt0:∀x∈p0,x.block<W.heap.size:=by obtain ⟨m,hm⟩:=h0;exact DataW.trod_lt m _ _ _ hm
 have lt1:∀x∈p1,x.block<W.heap.size:=by obtain ⟨m,hm⟩:=h1;exact DataW.trod_lt m _ _ _ hm
 have lt2:∀x∈p2,x.block<W.heap.size:=by obtain ⟨m,hm⟩:=h2;exact DataW.trod_lt m _ _ _ hm
 refine (KT W (hval 0 24 v0 rfl rfl) h0 lt0 (hval 1 26 v1 rfl rfl) h1 lt1 (hval 2 3 v2 rfl rfl) h2 lt2 hsh).mono fun e W' ⟨he,bel⟩=>?_
 subst he
 exact ⟨_,rfl,_,_,_,[],_,[],hW',trodAll_mk1 (shut_bool Tryz.underlying4 _),(trodAll_cons_mk (Below.trod DO AA (of_decide_eq_true AA) h0 bel lt0) (trodAll_cons_mk (Below.trod DO AA (of_decide_eq_true AA) h1 bel lt1) (trodAll_cons_mk (Below.trod DO AA (of_decide_eq_true AA) h2 bel lt2) trodAll_mk0))),rfl,bel.frame _,fun h=>by cases h⟩
theorem KS:Rows.RescueAllSaid:=
 OpenClaim.holds_of_cond 11 Tryz.f11 rfl rfl rfl rfl rfl rfl rfl ⟨rfl,rfl,rfl,rfl,rfl⟩ rfl rfl rfl rfl rfl AA Tryz.func11 AA
  (of_decide_eq_true AA) (by unfold Func.isWrapper;rw [if_neg (by decide+kernel)];exact ⟨rfl,rfl⟩)
  (fun os started H enc _ F=>by rw [OpenClaim.pre_eq_preRow];exact I2 os started H enc F)
theorem IF(f:FuncId)(fn:Func)(hf:Tryz.pinned.checked.prog.funcNamed "mezzotint/mezzotintkeep.RescueAll" =some f)(hfn:Tryz.pinned.checked.prog.funcs[f]? =some fn):
 false=Tryz.pinned.checked.prog.looks []∧∀(j:Nat) t,fn.params[j]? =some t→Tryz.pinned.checked.prog.wantsStandIn t=false:=by
 obtain rfl:f=11:=Option.some.inj ((show Tryz.prog.funcNamed "mezzotint/mezzotintkeep.RescueAll" =some 11 by kernel_rfl).symm.trans hf) |>.symm
 obtain rfl:fn=Tryz.f11:=(Option.some.inj (Tryz.func11.symm.trans hfn)).symm
 refine ⟨by kernel_rfl,fun j t ht=>?_⟩
 rw [Tryz.params11] at ht
 have hm:t∈([24,26,3]:List Nat):=by simpa using Array.mem_of_getElem? ht
 have hall:(([24,26,3]:List Nat).all fun u=>!Tryz.prog.wantsStandIn u)=true:=by kernel_rfl
 exact (show Tryz.prog.wantsStandIn t=false by simpa using List.all_eq_true.1 hall t hm)
theorem RescueAll_proved:Rows.RescueAllCardSaid:=
 Claim7.holds_tied_plain_at .later [] _ _ _ _ KS (fun _ h=>by cases h) AA (fun _ h=>by cases h) rescueAll_row_tie rfl ⟨rfl,rfl⟩ AA rfl IF AA
end Go.Proofs.YtohacgmhmbijmaaGreatDoor
