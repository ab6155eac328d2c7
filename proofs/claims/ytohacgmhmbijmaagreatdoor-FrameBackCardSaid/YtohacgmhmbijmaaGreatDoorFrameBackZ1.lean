/- The law FrameBack: its walk, and the statement. -/
import Derived.Test.YtohacgmhmbijmaaGreatDoorBaseSZ2
import Derived.Test.YtohacgmhmbijmaaGreatDoorBaseSZ3
import Derived.Test.YtohacgmhmbijmaaGreatDoorBaseSZ4
import Derived.Test.YtohacgmhmbijmaaGreatDoorBaseSZ5
import Derived.Test.YtohacgmhmbijmaaGreatDoorBaseSZ11
import Derived.Test.YtohacgmhmbijmaaGreatDoorBaseSZ18
import Derived.Test.YtohacgmhmbijmaaGreatDoorBaseSZ19
import Derived.Test.YtohacgmhmbijmaaGreatDoorRows
import Derived.Test.YtohacgmhmbijmaaGreatDoorCards
import Derived.Test.YtohacgmhmbijmaaGreatDoorTie
import Derived.Deep.DeepHandedRow
import Derived.Lay
import Derived.SevenTiedAt
namespace Go.Proofs.YtohacgmhmbijmaaGreatDoor
attribute [local irreducible] Region.wanted
open Go.ChangeShapes Go.WideShapes Go.ChangeAt Go.RowKit
set_option linter.unusedVariables false
set_option maxRecDepth 100000
set_option maxHeartbeats 8000000
theorem Rx(m h:Int)(q:List Int)(L:List (List Int))(e1 e2:Nat)(h1:e1≤100)(h2:e2≤100):Dc m h q L e1=Dc m h q L e2:=by
 unfold Dc
 rw [if_pos (show (0:Int)≤(e1:Int)∧(e1:Int)≤100 by omega),if_pos (show (0:Int)≤(e2:Int)∧(e2:Int)≤100 by omega)]
theorem Ry{m h:Int}{q:List Int}{L:List (List Int)}{e:Nat}(h0:Dc m h q L e=0):ND m h q L=0:=by
 unfold Dc at h0
 by_cases hz:ND m h q L=0
 ·exact hz
 rw [if_neg hz] at h0;exact absurd h0 hz
theorem aK{m h:Int}(hok:1≤m∧m≤64∧1≤h∧h≤64)(q B:List Int)(K np:Nat)(hnp:np=1∨np=3):F0 m h (Q3 m h q B K np)=0:=by
 have hall:∀x∈ZA m h q B K np,Ch x x.length m h=0:=by
  rw [Kn]
  intro x hx
  obtain ⟨k,_,rfl⟩:=List.mem_map.1 hx
  refine Nv hok ?_ ((EJ _).2 fun i hi=>?_)
  ·unfold bF Fw;rw [CJ]
   have k2:0<m*h:=Int.mul_pos (by omega) (by omega)
   omega
  unfold bF Fw at hi⊢
  rw [CJ] at hi
  rw [Fj _ _ _ hi];unfold LV;omega
 unfold F0
 rw [if_pos hok,if_pos (show (Q3 m h q B K np).length=1∨(Q3 m h q B K np).length=3 by unfold Q3;rw [FV,Km];exact hnp)]
 exact TW (Nb Ic Ib Ia (fun _ _ _=>DG _) (fun _ _ _=>DG _) (fun _ _ _=>DG _) hall)
theorem Pf(w:World)(m h:Int)(hm: -9223372036854775808≤m∧m≤9223372036854775807)(a:Option Addr)(c:Nat)(R:List Rw)(hR:R.length≤9223372036854775807)(hP:Av w a c R)(q:List Int)(hq:Ac q 64)(ev:Nat)(hev:ev≤100):
 Calls Tryz.prog 17 #[.agg #[.int .i64 m, .int .i64 h, .slice a R.length c], .agg (iv q), .int .i64 ev] w (Ku w (Dc m h q (R.map (·.xs)) ev) m h q R.length ev (TI m h q (R.map (·.xs))) (R.length*Ai m h)):=by
 by_cases hz:ND m h q (R.map (·.xs))=0
 ·exact Jz w m h hm a c R hR hP q hq ev hev hz
 exact RW w m h hm a c R hR hP q hq ev (.inl hz)
theorem Kw{H:Type}{enc:TypeId×Value→H}{d0 d1 d2 d3:DataW H}{p0 p1 p2 p3:List MemPlace}{v0 v1 v2 v3:Value}{base:Nat}(W:World)
 (o0:Value.okWide Tryz.prog W .any base 24 v0) (h0:DataW.Trod enc Tryz.prog W 0 (fun _=>true) true 24 v0 d0 p0) (lt0:∀x∈p0,x.block<W.heap.size)
 (o1:Value.okWide Tryz.prog W .any base 26 v1) (h1:DataW.Trod enc Tryz.prog W 0 (fun _=>true) true 26 v1 d1 p1) (lt1:∀x∈p1,x.block<W.heap.size)
 (o2:Value.okWide Tryz.prog W .any base 3 v2) (h2:DataW.Trod enc Tryz.prog W 0 (fun _=>true) true 3 v2 d2 p2) (lt2:∀x∈p2,x.block<W.heap.size)
 (o3:Value.okWide Tryz.prog W .any base 3 v3) (h3:DataW.Trod enc Tryz.prog W 0 (fun _=>true) true 3 v3 d3 p3) (lt3:∀x∈p3,x.block<W.heap.size)
 (hsh:W.ShapedOpen Tryz.prog):
 Calls Tryz.prog 3 #[v0,v1,v2,v3] W fun e w'=>e= .returned (.bool true)∧Af W w':=by
 obtain ⟨m,h,a,c,R,rfl,hm,hh,hRc,hcm,hPT⟩:=d6 o0 h0
 obtain ⟨q,hq,rfl,_⟩:=XZ o1
 obtain ⟨z1,rfl,_,_⟩:=Xa Tryz.underlying3 o2 h2
 obtain ⟨z2,rfl,_,_⟩:=Xa Tryz.underlying3 o3 h3
 have hml:∃m,W.cell? ⟨0,0,none⟩=some (.int .i64 m):=Tryz.laysM185.s1_3 W hsh
 clear o0 h0 lt0 o1 h1 lt1 o2 h2 lt2 o3 h3 lt3 hsh
 have hS:=St.start W
 have HML:=AD hml
 have hRm:R.length≤9223372036854775807:=Nat.le_trans hRc hcm
 obtain ⟨ev1,hev1⟩:∃n:Nat,z1%101=(n:Int):=⟨(z1%101).toNat,by omega⟩
 obtain ⟨ev2,hev2⟩:∃n:Nat,z2%101=(n:Int):=⟨(z2%101).toNat,by omega⟩
 have he1:ev1≤100:=by omega
 have he2:ev2≤100:=by omega
 have HV1:=AD fun (w:World)=>hev1▸ LH z1 w
 have HV2:=AD fun (w:World)=>hev2▸ LH z2 w
 have hE1:=fun (w:World)(hx:Af W w)=>Pf w m h hm a c R hRm (hPT.ext hx) q hq ev1 he1
 have hE2:=fun (w:World)(hx:Af W w)=>Pf w m h hm a c R hRm (hPT.ext hx) q hq ev2 he2
 rw [Rx m h q (R.map (·.xs)) ev2 ev1 he2 he1] at hE2
 have hB:=fun (w:World)(hx:Af W w)=>Hn w m h hm a c R hRm (hPT.ext hx) q hq
 obtain ⟨E,hEE⟩:∃E,Dc m h q (R.map (·.xs)) ev1=E:=⟨_,rfl⟩
 rw [hEE] at hE1 hE2
 obtain ⟨np,hnp⟩:∃np,R.length=np:=⟨_,rfl⟩
 by_cases hz:E=0
 case neg=>
  rw [hnp] at hE1 hE2
  rw [hnp]
  have HE1:=AD fun w hx=>(hE1 w hx).mono fun e w' hh=>hh.1 hz
  have HE2:=AD fun w hx=>(hE2 w hx).mono fun e w' hh=>hh.1 hz
  have HFQ:=AD fun (w:World)=>RZ w 0 0 0 (List.replicate 64 0) (List.replicate 16 0) [] (List.replicate 16 0) [] 0 [] none none none none none none 0 0 0 0 0 0 0 0 0 Ac.rep Ac.rep Ac.rep (Sl.nil _ _) (Sl.nil _ _) (Sl.nil _ _) (Sl.nil _ _) (Sl.nil _ _) (Sl.nil _ _)
  clear hE1 hE2 hB hPT hEE hml hnp hev1 hev2
  go_enter Tryz.func3,Tryz.ntmps3
  repeat' (first
   | (refine Al 15 ?_);refine Am AA Tryz.call15 (EY _ (HML.out.imp fun m h=>hS.1.cell h)) (EW hS ?_);clear hS;intro w hS;go_step|(refine AP 24 ?_);refine AG (f:=16) Tryz.call16 AA ?_;refine ⟨_,(HV1.out _),?_⟩;rintro e w' ⟨rfl,rfl⟩;refine AX ?_;go_step|(refine AP 26 ?_);refine AG (f:=16) Tryz.call16 AA ?_;refine ⟨_,(HV2.out _),?_⟩;rintro e w' ⟨rfl,rfl⟩;refine AX ?_;go_step|(refine AP 31 ?_);refine AG (f:=17) Tryz.call17 AA ?_;refine ⟨_,(HE1.out _ hS.1),?_⟩;rintro e w ⟨rfl,hE⟩;unfold gz;replace hS:=hS.ext hE;clear hE;refine AX ?_;go_step|(refine AP 38 ?_);refine AG (f:=17) Tryz.call17 AA ?_;refine ⟨_,(HE2.out _ hS.1),?_⟩;rintro e w ⟨rfl,hE⟩;unfold gz;replace hS:=hS.ext hE;clear hE;refine AX ?_;go_step|refine dd 48 ?_|(refine Al 18 ?_);refine Am AA Tryz.call18 (HFQ.out _) (EW hS ?_);clear hS;intro w hS;go_step|refine X0 ?_|refine Eu ?_|refine X9 45 ?_ ?_<;>intro hB<;>(try exact AQ)<;>go_step|refine KS ?_|refine X4 ?_|refine X3 ?_|refine Sa 4 ?_;clear hS;intro g4 w hS|refine O3 5 ?_;clear hS;intro g5 w hS|refine PF ?_|refine Jt ?_|refine RD 9 ?_;clear hS;intro g9 w hS|refine Qz ?_;clear hS;intro w hS|refine RD 11 ?_;clear hS;intro g11 w hS|refine JE ?_|refine AH ?_;go_step|fail)
  all_goals (try exact AQ)
  all_goals (try (have hF:False:=(hB rfl);cases hF))
  all_goals (try (exact absurd rfl (by assumption)))
  all_goals
   go_ret
   exact ⟨rfl,hS.1⟩
 subst hz
 have hfz:=Ry hEE
 obtain ⟨hpz,hqk⟩:=Px hfz
 obtain ⟨hok,hlen,_⟩:=JZ hpz
 rw [List.length_map,hnp] at hlen
 obtain ⟨K,hK⟩:∃K,Ai m h=K:=⟨_,rfl⟩
 obtain ⟨q1,q2,_⟩:=Ed hok
 obtain ⟨n,hn⟩:∃n,np*K=n:=⟨_,rfl⟩
 have hBl:=TJ m h q hq (R.map (·.xs))
 have hab:=LR m h q hq (R.map (·.xs))
 rw [List.length_map,hnp,hK,hn] at hBl hab
 rw [hnp,hK,hn] at hE1 hE2 hB
 rw [hnp]
 have hn1:n≤192:=by
  rw [hK] at q2
  have:=Nat.mul_le_mul (show np≤3 by omega) q2
  omega
 obtain ⟨B,hBe⟩:∃B,TI m h q (R.map (·.xs))=B:=⟨_,rfl⟩
 rw [hBe] at hE1 hE2 hB hBl hab
 have HE1:Hid (∀w,Af W w→Calls Tryz.prog 17 #[.agg #[.int .i64 m, .int .i64 h, .slice a np c], .agg (iv q), .int .i64 ev1] w fun e w'=>∃(C1 S1 C2 S2 D:List Int) (a1 a2 ad:Option Addr) (n1 k1 n2 k2 nd kd:Nat),O8 B n ev1 C1 S1 C2 S2 D∧e= .returned (.tuple #[.agg (AF [.val (.int .i64 m), .val (.int .i64 h), .val (.int .i64 np), .ints q, .ints C1, .val (.slice a1 n1 k1), .ints C2, .val (.slice a2 n2 k2), .val (.int .i64 ev1), .val (.slice ad nd kd)]).toArray, .int .i64 0])∧St w w' [own 3 1 a1 n1 k1 (S1.map (Value.int .i64)),own 3 1 a2 n2 k2 (S2.map (Value.int .i64)),own 5 1 ad nd kd (D.map (Value.int .u8))]):=fun w hx=>(hE1 w hx).mono fun e w' hh=>by
  obtain ⟨C1,S1,C2,S2,D,a1,a2,ad,n1,k1,n2,k2,nd,kd,h1,_,_,_,h2,h3⟩:=hh.2 rfl
  exact ⟨C1,S1,C2,S2,D,a1,a2,ad,n1,k1,n2,k2,nd,kd,h1,h2,h3⟩
 have HE2:Hid (∀w,Af W w→Calls Tryz.prog 17 #[.agg #[.int .i64 m, .int .i64 h, .slice a np c], .agg (iv q), .int .i64 ev2] w fun e w'=>∃(C1 S1 C2 S2 D:List Int) (a1 a2 ad:Option Addr) (n1 k1 n2 k2 nd kd:Nat),O8 B n ev2 C1 S1 C2 S2 D∧e= .returned (.tuple #[.agg (AF [.val (.int .i64 m), .val (.int .i64 h), .val (.int .i64 np), .ints q, .ints C1, .val (.slice a1 n1 k1), .ints C2, .val (.slice a2 n2 k2), .val (.int .i64 ev2), .val (.slice ad nd kd)]).toArray, .int .i64 0])∧St w w' [own 3 1 a1 n1 k1 (S1.map (Value.int .i64)),own 3 1 a2 n2 k2 (S2.map (Value.int .i64)),own 5 1 ad nd kd (D.map (Value.int .u8))]):=fun w hx=>(hE2 w hx).mono fun e w' hh=>by
  obtain ⟨C1,S1,C2,S2,D,a1,a2,ad,n1,k1,n2,k2,nd,kd,h1,_,_,_,h2,h3⟩:=hh.2 rfl
  exact ⟨C1,S1,C2,S2,D,a1,a2,ad,n1,k1,n2,k2,nd,kd,h1,h2,h3⟩
 have HB:Hid (∀w,Af W w→Calls Tryz.prog 19 #[.agg #[.int .i64 m, .int .i64 h, .slice a np c], .agg (iv q)] w fun e w'=>∃(ao:Option Addr) (co:Nat),e= .returned (.tuple #[.slice ao n co, .int .i64 0])∧St w w' [own 26 64 ao n co (B.map (Value.int .i64))]):=fun w hx=>(hB w hx).mono fun e w' hh=>hh.2 hfz
 have HS:Hid (∀w (C1 S1 C2 S2 D:List Int) (a1 a2 ad:Option Addr) (n1 k1 n2 k2 nd kd:Nat),(∃m,w.cell? ⟨0,0,none⟩=some (.int .i64 m))→O8 B n ev1 C1 S1 C2 S2 D→Sl w 1 (.slice a1 n1 k1) n1 (S1.map (Value.int .i64))→Sl w 1 (.slice a2 n2 k2) n2 (S2.map (Value.int .i64))→Sl w 1 (.slice ad nd kd) nd (D.map (Value.int .u8))→Calls Tryz.prog 20 #[.agg (AF [.ints C1, .val (.slice a1 n1 k1), .ints C2, .val (.slice a2 n2 k2)]).toArray, .slice ad nd kd, .int .i64 n, .int .i64 ev1] w fun e w'=>∃(ao:Option Addr) (co:Nat),e= .returned (.tuple #[.slice ao n co, .int .i64 0])∧St w w' [own 26 64 ao n co (B.map (Value.int .i64))]):=
  fun w C1 S1 C2 S2 D a1 a2 ad n1 k1 n2 k2 nd kd hm he s1 s2 sd=>by
   have hlt:∀x∈D,0≤x∧x<256:=by rw [he.d];exact Gf
   have hdl:D.length≤90000:=by rw [he.d];exact Nat.le_trans (Ss ev1 hBl) (by omega)
   have hnd:D.length=nd:=by have:=sd.1;simpa using this
   have htb:EE C1 S1 C2 S2=0:=by unfold EE;rw [if_pos he.m1.ok];exact he.m2.ok
   have hsc:IM C1 S1 C2 S2 D n ev1=(0,B):=by
    rw [he.d];exact QU hBl he1 (by omega) htb (Ji hBl (by omega) hab he.m1 he.m2)
   refine (GS w C1 C2 S1 S2 a1 a2 n1 n2 k1 k2 he.l1 he.l2 s1 s2 (Eh s1) (Eh s2) ad nd kd D n ev1 (by omega) sd hlt hm).mono fun e w' hh=>?_
   rw [hsc] at hh
   obtain ⟨ao,co,mb,r1,r2,r3⟩:=hh
   obtain rfl:mb=n:=by
    have:B.length=mb*64:=r1
    omega
   exact ⟨ao,co,r2,r3⟩
 obtain ⟨L,hL⟩:∃L,Q3 m h q B K np=L:=⟨_,rfl⟩
 have HD1:Hid (∀w (C1 S1 C2 S2 D:List Int) (a1 a2 ad:Option Addr) (n1 k1 n2 k2 nd kd:Nat),(∃m,w.cell? ⟨0,0,none⟩=some (.int .i64 m))→O8 B n ev1 C1 S1 C2 S2 D→Sl w 1 (.slice a1 n1 k1) n1 (S1.map (Value.int .i64))→Sl w 1 (.slice a2 n2 k2) n2 (S2.map (Value.int .i64))→Sl w 1 (.slice ad nd kd) nd (D.map (Value.int .u8))→Calls Tryz.prog 21 #[.agg (AF [.val (.int .i64 m), .val (.int .i64 h), .val (.int .i64 np), .ints q, .ints C1, .val (.slice a1 n1 k1), .ints C2, .val (.slice a2 n2 k2), .val (.int .i64 ev1), .val (.slice ad nd kd)]).toArray] w fun e w'=>∃(a:Option Addr) (c:Nat) (R:List Rw),R.map (·.xs)=L∧e= .returned (.tuple #[.agg #[.int .i64 m, .int .i64 h, .slice a R.length c], .int .i64 0])∧Cc w w' a c R []):=
  fun w C1 S1 C2 S2 D a1 a2 ad n1 k1 n2 k2 nd kd hm he s1 s2 sd=>by
   rw [←hL]
   exact Kd w hok hlen hq hqk he1 hK hn hBl hab he s1 s2 sd hm
 have HD2:Hid (∀w (C1 S1 C2 S2 D:List Int) (a1 a2 ad:Option Addr) (n1 k1 n2 k2 nd kd:Nat),(∃m,w.cell? ⟨0,0,none⟩=some (.int .i64 m))→O8 B n ev2 C1 S1 C2 S2 D→Sl w 1 (.slice a1 n1 k1) n1 (S1.map (Value.int .i64))→Sl w 1 (.slice a2 n2 k2) n2 (S2.map (Value.int .i64))→Sl w 1 (.slice ad nd kd) nd (D.map (Value.int .u8))→Calls Tryz.prog 21 #[.agg (AF [.val (.int .i64 m), .val (.int .i64 h), .val (.int .i64 np), .ints q, .ints C1, .val (.slice a1 n1 k1), .ints C2, .val (.slice a2 n2 k2), .val (.int .i64 ev2), .val (.slice ad nd kd)]).toArray] w fun e w'=>∃(a:Option Addr) (c:Nat) (R:List Rw),R.map (·.xs)=L∧e= .returned (.tuple #[.agg #[.int .i64 m, .int .i64 h, .slice a R.length c], .int .i64 0])∧Cc w w' a c R []):=
  fun w C1 S1 C2 S2 D a1 a2 ad n1 k1 n2 k2 nd kd hm he s1 s2 sd=>by
   rw [←hL]
   exact Kd w hok hlen hq hqk he2 hK hn hBl hab he s1 s2 sd hm
 have HPE:=AD (show F0 m h L=0 by rw [←hL];exact aK hok q B K np hlen)
 have HLL:=AD (show L.length=np by rw [←hL];unfold Q3;rw [FV,Km])
 have hqL:Ac q 64:=hq
 clear hE1 hE2 hB hPT hEE hml hev1 hev2 hfz hpz hqk hBl hab hBe hK hn hL hnp q1 q2
 go_enter Tryz.func3,Tryz.ntmps3
 repeat' (first
  | (refine Al 15 ?_);refine Am AA Tryz.call15 (EY _ (HML.out.imp fun m h=>hS.1.cell h)) (EW hS ?_);clear hS;intro w hS;go_step|(refine AP 24 ?_);refine AG (f:=16) Tryz.call16 AA ?_;refine ⟨_,(HV1.out _),?_⟩;rintro e w' ⟨rfl,rfl⟩;refine AX ?_;go_step|(refine AP 26 ?_);refine AG (f:=16) Tryz.call16 AA ?_;refine ⟨_,(HV2.out _),?_⟩;rintro e w' ⟨rfl,rfl⟩;refine AX ?_;go_step|(refine AP 31 ?_);refine AG (f:=17) Tryz.call17 AA ?_;refine ⟨_,(HE1.out _ hS.1),?_⟩;rintro e w ⟨C1,S1,C2,S2,D,a1,a2,ad,n1,k1,n2,k2,nd,kd,hen,rfl,hS2⟩;replace hS:=hS.call hS2;clear hS2;simp only [List.cons_append,List.nil_append] at hS;have hC1:=hen.l1;have hC2:=hen.l2;have HEN:=AD hen;clear hen;refine AX ?_;go_step|(refine AP 38 ?_);refine AG (f:=17) Tryz.call17 AA ?_;refine ⟨_,(HE2.out _ hS.1),?_⟩;rintro e w ⟨B1,T1,B2,T2,Y,b1,b2,bd,m1,j1,m2,j2,md,jd,hen,rfl,hS2⟩;replace hS:=hS.call hS2;clear hS2;simp only [List.cons_append,List.nil_append] at hS;have hB1:=hen.l1;have hB2:=hen.l2;have HEM:=AD hen;clear hen;refine AX ?_;go_step|refine X0 ?_|refine KS ?_|refine X4 ?_|refine X3 ?_|refine Sa 4 ?_;clear hS;intro g4 w hS|refine O3 5 ?_;clear hS;intro g5 w hS|refine PF ?_|refine Jt ?_|refine RD 9 ?_;clear hS;intro g9 w hS|refine Qz ?_;clear hS;intro w hS|refine RD 11 ?_;clear hS;intro g11 w hS|refine AH ?_;go_step|fail)
 all_goals (try exact AQ)
 all_goals (try (exact absurd rfl (by assumption)))
 repeat' (first
  | (refine Al 19 ?_);refine Am AA Tryz.call19 (HB.out _ hS.1) ?_;rintro e w ⟨ao,co,rfl,hS2⟩;replace hS:=hS.call1 hS2;clear hS2;refine AX ?_;go_step|(refine Al 20 ?_);refine Am AA Tryz.call20 (HS.out _ C1 S1 C2 S2 D a1 a2 ad n1 k1 n2 k2 nd kd (HML.out.imp fun m h=>hS.1.cell h) HEN.out (hS.sl AK) (hS.sl AK) (hS.sl AK)) ?_;rintro e w ⟨ap,cp,rfl,hS2⟩;replace hS:=hS.call1 hS2;clear hS2;refine AX ?_;go_step|(refine AP 70 ?_);refine AG (f:=21) Tryz.call21 AA ?_;refine ⟨_,(HD1.out _ C1 S1 C2 S2 D a1 a2 ad n1 k1 n2 k2 nd kd (HML.out.imp fun m h=>hS.1.cell h) HEN.out (hS.sl AK) (hS.sl AK) (hS.sl AK)),?_⟩;rintro e w ⟨a5,c5,R5,hR5,rfl,hP9⟩;replace hS:=hS.call hP9;clear hP9;simp only [List.cons_append,List.nil_append] at hS;have HR5:=AD hR5;clear hR5;refine AX ?_;go_step|(refine AP 75 ?_);refine AG (f:=21) Tryz.call21 AA ?_;refine ⟨_,(HD2.out _ B1 T1 B2 T2 Y b1 b2 bd m1 j1 m2 j2 md jd (HML.out.imp fun m h=>hS.1.cell h) HEM.out (hS.sl AK) (hS.sl AK) (hS.sl AK)),?_⟩;rintro e w ⟨a6,c6,R6,hR6,rfl,hP9⟩;replace hS:=hS.call hP9;clear hP9;simp only [List.cons_append,List.nil_append] at hS;have HR6:=AD hR6;clear hR6;refine AX ?_;go_step|refine X0 ?_|refine X4 ?_|refine bq ?_|refine dU ?_|refine Vw ?_|refine PG ?_|refine ZX ?_|refine JE ?_|refine GB 17 ?_;clear hS;intro g17 w hS|refine Ns ?_;clear hS;intro w hS|refine GB 19 ?_;clear hS;intro g19 w hS|refine AH ?_;go_step|fail)
 have HR5l:=AD (show R5.length=np by have h9:=congrArg List.length HR5.out;rw [List.length_map,HLL.out] at h9;exact h9)
 repeat' (first
  | (refine Al 22 ?_);refine Am AA Tryz.call22 (Uu _ ao ap n co cp B (hS.sl AK) (hS.sl AK) (by omega)) (EW hS ?_);clear hS;intro w hS;go_step|(refine Al 23 ?_);refine Am AA Tryz.call23 (BQ _ m h a5 a6 c5 c6 R5 R6 (Av.of hS AK AK) (Av.of hS AK AK) (by rw [HR5l.out];omega) (HR5.out.trans HR6.out.symm)) (EW hS ?_);clear hS;intro w hS;go_step|(refine Al 24 ?_);refine Am AA Tryz.call24 (GG _ m h hm a5 c5 R5 (by rw [HR5l.out];omega) (Av.of hS AK AK)) ?_;rintro e w ⟨rfl,hE⟩;rw [HR5.out,HPE.out];replace hS:=hS.ext hE;clear hE;refine AX ?_;go_step|refine X0 ?_|refine Eu ?_|refine X9 79 ?_ ?_<;>intro hB<;>(try exact AQ)<;>go_step|refine X9 82 ?_ ?_<;>intro hB<;>(try exact AQ)<;>go_step|refine X9 86 ?_ ?_<;>intro hB<;>(try exact AQ)<;>go_step|refine X9 95 ?_ ?_<;>intro hB<;>(try exact AQ)<;>go_step|refine X9 99 ?_ ?_<;>intro hB<;>(try exact AQ)<;>go_step|refine X9 109 ?_ ?_<;>intro hB<;>(try exact AQ)<;>go_step|refine X9 116 ?_ ?_<;>intro hB<;>(try exact AQ)<;>go_step|refine X9 123 ?_ ?_<;>intro hB<;>(try exact AQ)<;>go_step|refine bn ?_|refine bo ?_|refine UE ?_|refine Zo ?_|refine Sc ?_|refine PF ?_|refine ED ?_|refine dW ?_|refine AH ?_;go_step|fail)
 all_goals (try exact AQ)
 all_goals (try (have hF:False:=(hB rfl);cases hF))
 all_goals
  go_ret
  first|exact ⟨rfl,hS.1⟩|exact ⟨Aw (decide_eq_true (by rw [HR5l.out])),hS.1⟩
def Cg:Array Value:=#[.agg #[.int .i64 0, .int .i64 0, .slice none 0 0], .agg #[.int .i64 0, .int .i64 0, .int .i64 0, .int .i64 0, .int .i64 0, .int .i64 0, .int .i64 0, .int .i64 0, .int .i64 0, .int .i64 0, .int .i64 0, .int .i64 0, .int .i64 0, .int .i64 0, .int .i64 0, .int .i64 0, .int .i64 0, .int .i64 0, .int .i64 0, .int .i64 0, .int .i64 0, .int .i64 0, .int .i64 0, .int .i64 0, .int .i64 0, .int .i64 0, .int .i64 0, .int .i64 0, .int .i64 0, .int .i64 0, .int .i64 0, .int .i64 0, .int .i64 0, .int .i64 0, .int .i64 0, .int .i64 0, .int .i64 0, .int .i64 0, .int .i64 0, .int .i64 0, .int .i64 0, .int .i64 0, .int .i64 0, .int .i64 0, .int .i64 0, .int .i64 0, .int .i64 0, .int .i64 0, .int .i64 0, .int .i64 0, .int .i64 0, .int .i64 0, .int .i64 0, .int .i64 0, .int .i64 0, .int .i64 0, .int .i64 0, .int .i64 0, .int .i64 0, .int .i64 0, .int .i64 0, .int .i64 0, .int .i64 0, .int .i64 0], .int .i64 0, .int .i64 0]
theorem MV:ownKnob Tryz.prog.godebug=none:=by kernel_rfl
theorem Cf:laidOutB Tryz.prog=true:=by kernel_rfl
theorem MU(os:Os)(args:Array Value):laidMetH Tryz.prog Rows.frameBackRow.laid ((World.laidAll Tryz.prog os Rows.frameBackRow.laid).forCall (fun _ _=>0) ⟨#[],args,[]⟩).memory:=by
 rw [MakeChecks.laidMetH_plain _ _ _ AA];exact laidMet_laidAll _ AA AA
theorem KK(os:Os){H:Type}(enc:TypeId×Value→H):∃places,DataW.whole enc Tryz.prog ((World.laidAll Tryz.prog os Rows.frameBackRow.laid).forCall (fun _ _=>0) ⟨#[],Cg,[]⟩).memory Tryz.f3.params.toList Rows.frameBackSpec.vars false (Cg:Array Value).toList 8=some ([.agg [.lit (.int .i64 0), .lit (.int .i64 0), .nil], .agg [.lit (.int .i64 0), .lit (.int .i64 0), .lit (.int .i64 0), .lit (.int .i64 0), .lit (.int .i64 0), .lit (.int .i64 0), .lit (.int .i64 0), .lit (.int .i64 0), .lit (.int .i64 0), .lit (.int .i64 0), .lit (.int .i64 0), .lit (.int .i64 0), .lit (.int .i64 0), .lit (.int .i64 0), .lit (.int .i64 0), .lit (.int .i64 0), .lit (.int .i64 0), .lit (.int .i64 0), .lit (.int .i64 0), .lit (.int .i64 0), .lit (.int .i64 0), .lit (.int .i64 0), .lit (.int .i64 0), .lit (.int .i64 0), .lit (.int .i64 0), .lit (.int .i64 0), .lit (.int .i64 0), .lit (.int .i64 0), .lit (.int .i64 0), .lit (.int .i64 0), .lit (.int .i64 0), .lit (.int .i64 0), .lit (.int .i64 0), .lit (.int .i64 0), .lit (.int .i64 0), .lit (.int .i64 0), .lit (.int .i64 0), .lit (.int .i64 0), .lit (.int .i64 0), .lit (.int .i64 0), .lit (.int .i64 0), .lit (.int .i64 0), .lit (.int .i64 0), .lit (.int .i64 0), .lit (.int .i64 0), .lit (.int .i64 0), .lit (.int .i64 0), .lit (.int .i64 0), .lit (.int .i64 0), .lit (.int .i64 0), .lit (.int .i64 0), .lit (.int .i64 0), .lit (.int .i64 0), .lit (.int .i64 0), .lit (.int .i64 0), .lit (.int .i64 0), .lit (.int .i64 0), .lit (.int .i64 0), .lit (.int .i64 0), .lit (.int .i64 0), .lit (.int .i64 0), .lit (.int .i64 0), .lit (.int .i64 0), .lit (.int .i64 0)], .lit (.int .i64 0), .lit (.int .i64 0)],[],places):=
 ⟨[],by kernel_rfl⟩
theorem JI(os:Os)(started:os.Started)(H:Type)(enc:TypeId×Value→H)(F:Stop.Interp):
 ReturnsInHanded {} Tryz.checked os 3 .any ((OpenSpec.ofChange Rows.frameBackSpec).preRow enc Tryz.prog Tryz.f3 Rows.frameBackRow.domain false Rows.frameBackRow.laid) (((OpenSpec.ofChange Rows.frameBackSpec).at F).post enc Tryz.prog Tryz.f3 false true false false):=by
 obtain ⟨places,hx⟩:=KK os enc
 have hok:Input.okWideB Tryz.prog ((World.laidAll Tryz.prog os Rows.frameBackRow.laid).forCall (fun _ _=>0) ⟨#[],Cg,[]⟩) 3 ⟨#[],Cg,[]⟩=true:=by kernel_rfl
 refine returnsInHanded_of_row (C:=Tryz.checked) (s:=OpenSpec.ofChange Rows.frameBackSpec) MV started AA Tryz.func3
  ⟨(World.laidAll Tryz.prog os Rows.frameBackRow.laid),fun _ _=>0,⟨#[],Cg,[]⟩,World.laidAll_os _ _ _,World.shaped_of_ZipB AA AA,(Input.okWide_of_okWideB (base:=0) hok).1,(Input.okWide_of_okWideB hok).2,
   OpenSpec.preRow_of_cond 8 hx AA (fun k hk=>by cases hk) AA (MU os _),by
   simp only [Assume.holds]
   exact ⟨by simp,by simp,by simp,by simp,by simp⟩⟩ ?_
 intro W base args ds gs before hval0 hW _ hk _ hL hsh _
 have hval:∀(j:Nat) t v,Tryz.f3.params[j]? =some t→args[j]? =some v→Value.okWide Tryz.prog W .any base t v:=hval0
 have hW':=hW
 obtain ⟨p,q,hA0,hV,rfl,hfz,hnd⟩:=hW
 have hA:DataW.TrodAll enc Tryz.prog W 0 (fun _=>true) true Tryz.f3.params.toList args.toList ds p:=hA0
 rw [Tryz.params3] at hA hval
 obtain ⟨v0,vs0,d0,ds0,p0,q0,hargs,rfl,rfl,h0,r0⟩:=trodAll_cons hA
 obtain ⟨v1,vs1,d1,ds1,p1,q1,rfl,rfl,rfl,h1,r1⟩:=trodAll_cons r0
 obtain ⟨v2,vs2,d2,ds2,p2,q2,rfl,rfl,rfl,h2,r2⟩:=trodAll_cons r1
 obtain ⟨v3,vs3,d3,ds3,p3,q3,rfl,rfl,rfl,h3,r3⟩:=trodAll_cons r2
 obtain ⟨rfl,rfl,rfl⟩:=trodAll_nil r3
 obtain rfl:args=#[v0,v1,v2,v3]:=by cases args;simp_all
 obtain ⟨rfl,rfl⟩:=trodVars_none hV
 have lt0:∀x∈p0,x.block<W.heap.size:=by obtain ⟨m,hm⟩:=h0;exact DataW.trod_lt m _ _ _ hm
 have lt1:∀x∈p1,x.block<W.heap.size:=by obtain ⟨m,hm⟩:=h1;exact DataW.trod_lt m _ _ _ hm
 have lt2:∀x∈p2,x.block<W.heap.size:=by obtain ⟨m,hm⟩:=h2;exact DataW.trod_lt m _ _ _ hm
 have lt3:∀x∈p3,x.block<W.heap.size:=by obtain ⟨m,hm⟩:=h3;exact DataW.trod_lt m _ _ _ hm
 refine (Kw W (hval 0 24 v0 rfl rfl) h0 lt0 (hval 1 26 v1 rfl rfl) h1 lt1 (hval 2 3 v2 rfl rfl) h2 lt2 (hval 3 3 v3 rfl rfl) h3 lt3 hsh).mono fun e W' ⟨he,bel⟩=>?_
 subst he
 exact ⟨_,rfl,_,_,_,[],_,[],hW',trodAll_mk1 (shut_bool Tryz.underlying4 _),(trodAll_cons_mk (Below.trod Cf AA (of_decide_eq_true AA) h0 bel lt0) (trodAll_cons_mk (Below.trod Cf AA (of_decide_eq_true AA) h1 bel lt1) (trodAll_cons_mk (Below.trod Cf AA (of_decide_eq_true AA) h2 bel lt2) (trodAll_cons_mk (Below.trod Cf AA (of_decide_eq_true AA) h3 bel lt3) trodAll_mk0)))),rfl,bel.frame _,fun h=>by cases h⟩
end Go.Proofs.YtohacgmhmbijmaaGreatDoor
