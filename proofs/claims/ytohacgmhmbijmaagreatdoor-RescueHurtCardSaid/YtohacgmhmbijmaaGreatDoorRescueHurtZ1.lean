/- The law RescueHurt: its walk, and the statement. -/
import Derived.Test.YtohacgmhmbijmaaGreatDoorBaseHZ2
import Derived.Test.YtohacgmhmbijmaaGreatDoorBaseHZ3
import Derived.Test.YtohacgmhmbijmaaGreatDoorBaseHZ4
import Derived.Test.YtohacgmhmbijmaaGreatDoorBaseHZ5
import Derived.Test.YtohacgmhmbijmaaGreatDoorBaseHZ11
import Derived.Test.YtohacgmhmbijmaaGreatDoorBaseHZ17
import Derived.Test.YtohacgmhmbijmaaGreatDoorBaseHZ18
import Derived.Test.YtohacgmhmbijmaaGreatDoorRows
import Derived.Test.YtohacgmhmbijmaaGreatDoorCards
import Derived.Test.YtohacgmhmbijmaaGreatDoorTie
import Derived.Deep.DeepHandedRow
import Derived.Lay
import Derived.SevenTiedAt
namespace Go.Proofs.YtohacgmhmbijmaaGreatDoor
attribute [local irreducible] Region.wanted
open Go.ChangeShapes Go.WideShapes Go.ChangeAt Go.RowKit
set_option linter.unusedVariables false
set_option maxRecDepth 100000
set_option maxHeartbeats 8000000
theorem Ow{m h:Int}{q L:List Int}{K:Nat}(hL:L.length=K*64):Ov m h q L K 1=[DL (JG q L K) m h]:=by
 unfold Ov
 rw [J6]
 show [ZJ m h q L K 0]=_
 unfold ZJ
 rw [show 0*K*64=0 by omega,List.drop_zero,List.take_of_length_le (by omega)]
theorem VZ{B:List Int}{n ev:Nat}(hB:B.length=n*64)(hurt:Nat→Bool):(((A5 n ev).zipIdx 0).flatMap fun y=>if hurt y.2 then BL (y.1.2-y.1.1) else Ap B y.1.1 y.1.2).length=n*64:=by
 have e:∀(L:List ((Nat×Nat)×Nat)),(∀y∈L,y.1.1≤y.1.2∧y.1.2≤n)→(L.flatMap fun y=>if hurt y.2 then BL (y.1.2-y.1.1) else Ap B y.1.1 y.1.2).length=(L.map fun y=>y.1.2-y.1.1).sum*64:=by
  intro L hL
  induction L with
  | nil=>rfl
  | cons y L ih=>
    rw [List.flatMap_cons,List.length_append,ih fun z hz=>hL z (by simp [hz]),List.map_cons,List.sum_cons,Nat.add_mul]
    congr 1
    split
    ·unfold BL;rw [List.length_replicate]
    exact CE hB (hL y (by simp)).1 (hL y (by simp)).2
 rw [e _ fun y hy=>D5 n ev y.1 (List.fst_mem_of_mem_zipIdx hy)]
 have e2:((A5 n ev).zipIdx 0).map (fun y=>y.1.2-y.1.1)=(A5 n ev).map fun x=>x.2-x.1:=by
  refine List.ext_getElem (by simp) fun i h1 h2=>?_
  simp
 rw [e2,IZ]
theorem Jl{H:Type}{enc:TypeId×Value→H}{d0 d1 d2 d3:DataW H}{p0 p1 p2 p3:List MemPlace}{v0 v1 v2 v3:Value}{base:Nat}(W:World)
 (o0:Value.okWide Tryz.prog W .any base 24 v0) (h0:DataW.Trod enc Tryz.prog W 0 (fun _=>true) true 24 v0 d0 p0) (lt0:∀x∈p0,x.block<W.heap.size)
 (o1:Value.okWide Tryz.prog W .any base 26 v1) (h1:DataW.Trod enc Tryz.prog W 0 (fun _=>true) true 26 v1 d1 p1) (lt1:∀x∈p1,x.block<W.heap.size)
 (o2:Value.okWide Tryz.prog W .any base 3 v2) (h2:DataW.Trod enc Tryz.prog W 0 (fun _=>true) true 3 v2 d2 p2) (lt2:∀x∈p2,x.block<W.heap.size)
 (o3:Value.okWide Tryz.prog W .any base 3 v3) (h3:DataW.Trod enc Tryz.prog W 0 (fun _=>true) true 3 v3 d3 p3) (lt3:∀x∈p3,x.block<W.heap.size)
 (hsh:W.ShapedOpen Tryz.prog):
 Calls Tryz.prog 10 #[v0,v1,v2,v3] W fun e w'=>e= .returned (.bool true)∧Ai W w':=by
 obtain ⟨m,h,a,c,R,rfl,hm,hh,hRc,hcm,hPT⟩:=cD o0 h0
 obtain ⟨q,hq,rfl,_⟩:=V4 o1
 obtain ⟨z1,rfl,_,_⟩:=V5 Tryz.underlying3 o2 h2
 obtain ⟨z2,rfl,_,_⟩:=V5 Tryz.underlying3 o3 h3
 have hml:∃m,W.cell? ⟨0,0,none⟩=some (.int .i64 m):=Tryz.laysM185.s1_3 W hsh
 clear o0 h0 lt0 o1 h1 lt1 o2 h2 lt2 o3 h3 lt3 hsh
 have hS:=St.start W
 have HML:=AD hml
 have hRm:R.length≤9223372036854775807:=Nat.le_trans hRc hcm
 obtain ⟨ev,hev⟩:∃n:Nat,z1%101=(n:Int):=⟨(z1%101).toNat,by omega⟩
 have he:ev≤100:=by omega
 have HV:=AD fun (w:World)=>hev▸ QU z1 w
 have hE1:=fun (w:World)(hx:Ai W w)=>YZ w m h hm a c R hRm (hPT.ext hx) q hq ev he
 obtain ⟨E,hE⟩:∃E,EZ m h q (R.map (·.xs)) ev=E:=⟨_,rfl⟩
 rw [hE] at hE1
 obtain ⟨np,hnp⟩:∃np,R.length=np:=⟨_,rfl⟩
 have hqL:Al q 64:=hq
 by_cases hnp1:np=1
 case neg=>
  rw [hnp]
  clear hE1 hPT hE hml hev
  go_enter Tryz.func10,Tryz.ntmps10
  repeat' (first
   | (refine As 15 ?_);refine At AA Tryz.call15 (Hd _ (HML.out.imp fun m h=>hS.1.cell h)) (Fp hS ?_);clear hS;intro w hS;go_step|refine X8 ?_|refine bX 26 ?_|refine Xy 27 ?_|refine Uo 29 ?_|refine Fe 30 ?_|refine P7 4 ?_;clear hS;intro g4 w hS|refine Mw 5 ?_;clear hS;intro g5 w hS|refine YF ?_|refine AG ?_;go_step|fail)
  all_goals (try exact AR)
  go_ret
  exact ⟨rfl,hS.1⟩
 subst hnp1
 by_cases hz:E=0
 case neg=>
  rw [hnp] at hE1
  rw [hnp]
  have HE1:=AD fun w hx=>(hE1 w hx).mono fun e w' hh=>hh.1 hz
  clear hE1 hPT hE hml hnp hev
  go_enter Tryz.func10,Tryz.ntmps10
  repeat' (first
   | (refine As 15 ?_);refine At AA Tryz.call15 (Hd _ (HML.out.imp fun m h=>hS.1.cell h)) (Fp hS ?_);clear hS;intro w hS;go_step|(refine As 16 ?_);refine At AA Tryz.call16 (HV.out _) ?_;rintro e w' ⟨rfl,rfl⟩;refine Ac ?_;go_step|(refine As 17 ?_);refine At AA Tryz.call17 (HE1.out _ hS.1) ?_;rintro e w ⟨rfl,hE⟩;unfold gz;replace hS:=hS.ext hE;clear hE;refine Ac ?_;go_step|refine X0 ?_|refine bX 26 ?_|refine Xy 27 ?_|refine Uo 29 ?_|refine Fe 30 ?_|refine X3 38 ?_|refine X3 39 ?_|refine Fe 41 ?_|refine P7 4 ?_;clear hS;intro g4 w hS|refine Mw 5 ?_;clear hS;intro g5 w hS|refine YF ?_|refine Us ?_|refine Jm ?_|refine YC 9 ?_;clear hS;intro g9 w hS|refine YD ?_;clear hS;intro w hS|refine AG ?_;go_step|fail)
  all_goals (try exact AR)
  go_ret
  exact ⟨rfl,hS.1⟩
 subst hz
 have hfz:=Tt hE
 obtain ⟨hpz,hqk⟩:=Kg hfz
 obtain ⟨hok,_,_⟩:=Ge hpz
 obtain ⟨n,hn⟩:∃K,Ae m h=K:=⟨_,rfl⟩
 obtain ⟨q1,q2,q3⟩:=Dv hok
 rw [hn] at q1 q2 q3
 have hBl:=NO m h q hq (R.map (·.xs))
 have hab:=Hc m h q hq (R.map (·.xs))
 have hDA:=bq (ev:=ev) hq he hfz
 rw [List.length_map,hnp,hn,Nat.one_mul] at hBl hab hDA
 rw [hnp,hn,Nat.one_mul] at hE1
 rw [hnp]
 obtain ⟨B,hBe⟩:∃B,P1 m h q (R.map (·.xs))=B:=⟨_,rfl⟩
 rw [hBe] at hE1 hBl hab hDA
 rw [Ow hBl] at hDA
 have HE1:=AD fun w hx=>(hE1 w hx).mono fun e w' hh=>hh.out
 have HG:Hid (∀C1 S1 C2 S2 D,Ud B n ev C1 S1 C2 S2 D→Eg m h 1 n n q B C1 S1 C2 S2 ev∧D=ER C1 S1 C2 S2 B n ev (fun _=>false)):=AD fun C1 S1 C2 S2 D he2=>Eg.of hok (.inl rfl) hn (Nat.one_mul n) he hq hqk hBl hab he2
 have hn1:1≤n∧n≤64:=⟨q1,q2⟩
 obtain ⟨k0,k1⟩:=ED m h 64 64 (by omega) (by omega)
 have k2:0<m*h:=Int.mul_pos (by omega) (by omega)
 obtain ⟨M,hM⟩:∃M:Nat,m*h=(M:Int):=⟨(m*h).toNat,by omega⟩
 have hMs:M≤4096:=by omega
 have hMp:0<M:=by omega
 obtain ⟨lp,hlp⟩:∃lp,(A5 n ev).length=lp:=⟨_,rfl⟩
 have hlp1:0<lp:=by
  have:=Q4 n ev
  rw [←hlp];exact List.length_pos_iff.2 this
 have HPC:=AD fun (w:World)=>(by have:=Yz n ev ⟨q1,by omega⟩ (by omega) w;rw [←ZQ q1 ev,hlp] at this;exact this:Calls Tryz.prog 33 #[.int .i64 n, .int .i64 ev] w fun e w'=>e= .returned (.int .i64 (lp:Int))∧Ai w w')
 have hlp2:lp≤100:=by have:=Gi n ev;omega
 obtain ⟨k,hk⟩:∃k:Nat,z2%(lp:Int)=(k:Int):=⟨(z2%(lp:Int)).toNat,by have:=Int.emod_nonneg z2 (b:=(lp:Int)) (by omega);omega⟩
 have hkl:k<lp:=by have:=Int.emod_lt_of_pos z2 (b:=(lp:Int)) (by omega);omega
 have HRS:=AD fun (w:World)=>(by have:=PQ z2 lp w (by omega) (by omega);rw [hk] at this;exact this:Calls Tryz.prog 28 #[.int .i64 z2, .int .i64 lp] w fun e w'=>e= .returned (.int .i64 (k:Int))∧w=w')
 obtain ⟨L,hL⟩:∃L,(((A5 n ev).zipIdx 0).flatMap fun y=>if y.2==k then BL (y.1.2-y.1.1) else Ap B y.1.1 y.1.2)=L:=⟨_,rfl⟩
 have hLl:L.length=n*64:=by rw [←hL];exact VZ hBl (· ==k)
 have hPX:=fun x (hx:x<M)=>WC (M:=M) (ev:=ev) (k:=k) (q:=q) (B:=B) (L:=L) hok hM.symm hq hn hBl hLl (fun y hy=>by rw [←hL];exact Va hBl q1 (· ==k) y hy) x hx
 have hone:=PK k (A5 n ev) 0 (Nat.zero_le _) (by rw [Nat.zero_add,hlp];exact hkl)
 obtain ⟨Y,hY⟩:∃Y,DL (JG q B n) m h=Y:=⟨_,rfl⟩
 obtain ⟨X,hX⟩:∃X,DL (JG q L n) m h=X:=⟨_,rfl⟩
 have hYl:Y.length=M:=by rw [←hY];exact MQ hM.symm _
 have hXl:X.length=M:=by rw [←hX];exact MQ hM.symm _
 rw [hY] at hDA
 rw [hX,hY] at hPX
 have HDA:=AD hDA
 have HPX:=AD hPX
 have HXL:=AD hXl
 have HYL:=AD hYl
 have HLX:=AD (show Ov m h q L n 1=[X] by rw [Ow hLl,hX])
 have HLL:=AD hL
 have HONE:=AD hone
 have HLP:=AD hlp
 have HQ3:=AD q3
 clear hE1 hPT hE hml hev hBe hBl hab hpz hqk hfz hn hlp hnp q3 hDA hPX hXl hYl hX hY hL hLl hone hk
 go_enter Tryz.func10,Tryz.ntmps10
 repeat' (first
  | (refine As 15 ?_);refine At AA Tryz.call15 (Hd _ (HML.out.imp fun m h=>hS.1.cell h)) (Fp hS ?_);clear hS;intro w hS;go_step|(refine As 16 ?_);refine At AA Tryz.call16 (HV.out _) ?_;rintro e w' ⟨rfl,rfl⟩;refine Ac ?_;go_step|(refine As 17 ?_);refine At AA Tryz.call17 (HE1.out _ hS.1) ?_;rintro e w ⟨C1,S1,C2,S2,D,a1,a2,bd,n1,k1,n2,k2,nd,kd,hen,rfl,hS2⟩;replace hS:=hS.call hS2;clear hS2;simp only [List.cons_append,List.nil_append] at hS;have hC1:=hen.l1;have hC2:=hen.l2;have HEN:=AD hen;clear hen;refine Ac ?_;go_step|refine X0 ?_|refine bX 26 ?_|refine Xy 27 ?_|refine Uo 29 ?_|refine Fe 30 ?_|refine X3 38 ?_|refine X3 39 ?_|refine Fe 41 ?_|refine P7 4 ?_;clear hS;intro g4 w hS|refine Mw 5 ?_;clear hS;intro g5 w hS|refine YF ?_|refine Us ?_|refine Jm ?_|refine YC 9 ?_;clear hS;intro g9 w hS|refine YD ?_;clear hS;intro w hS|refine AG ?_;go_step|fail)
 all_goals (try exact AR)
 all_goals (try (have hF:False:=(hB rfl);cases hF))
 repeat' (first
  | (refine As 21 ?_);refine At AA Tryz.call21 (HDA.out _ C1 S1 C2 S2 D a1 a2 bd n1 k1 n2 k2 nd kd (HML.out.imp fun m h=>hS.1.cell h) HEN.out (hS.sl AL) (hS.sl AL) (hS.sl AL)) ?_;rintro e w ⟨a5,c5,R5,hR5,rfl,hP9⟩;replace hS:=hS.call hP9;clear hP9;simp only [List.cons_append,List.nil_append] at hS;have HR5:=AD hR5;clear hR5;refine Ac ?_;go_step|refine X0 ?_|refine X3 45 ?_|refine X3 46 ?_|refine P8 ?_|refine UU 11 ?_;clear hS;intro g11 w hS|refine UV ?_;clear hS;intro w hS|refine AG ?_;go_step|fail)
 obtain ⟨hg,hD⟩:=HG.out C1 S1 C2 S2 D HEN.out
 subst hD
 have HGG:=AD hg
 clear hg HG HEN HE1 HDA
 have HHU:Hid (∀w,Sl w 1 (.slice a1 n1 k1) n1 (S1.map (Value.int .i64))→Sl w 1 (.slice a2 n2 k2) n2 (S2.map (Value.int .i64))→Sl w 1 (.slice bd nd kd) nd ((ER C1 S1 C2 S2 B n ev fun _=>false).map (Value.int .u8))→
  Calls Tryz.prog 34 #[QW m h 1 q C1 C2 ev n1 n2 nd a1 a2 bd k1 k2 kd, .int .i64 k] w fun e w'=>∃(b1 b2 bd:Option Addr) (j1 j2 jd N:Nat),e= .returned (.tuple #[QW m h 1 q C1 C2 ev n1 n2 N b1 b2 bd j1 j2 jd, .int .i64 0])∧St w w' [own 3 1 b1 n1 j1 (S1.map (Value.int .i64)),own 3 1 b2 n2 j2 (S2.map (Value.int .i64)),own 5 1 bd N jd ((ER C1 S1 C2 S2 B n ev fun i=>i==k).map (Value.int .u8))]):=
  AD fun w s1 s2 sd=>by
   have:=HGG.out.hurt (fun _=>false) w a1 a2 bd n1 k1 n2 k2 nd kd k (by rw [HLP.out];exact hkl) s1 s2 sd
   rw [show (fun i=>false||i==k)=fun i:Nat=>i==k from funext fun i=>Bool.false_or _] at this
   exact this
 have HSV:Hid (∀w (b1 b2 bd:Option Addr) (j1 j2 N jd:Nat),Sl w 1 (.slice b1 n1 j1) n1 (S1.map (Value.int .i64))→Sl w 1 (.slice b2 n2 j2) n2 (S2.map (Value.int .i64))→Sl w 1 (.slice bd N jd) N ((ER C1 S1 C2 S2 B n ev fun j=>j==k).map (Value.int .u8))→(∃m,w.cell? ⟨0,0,none⟩=some (.int .i64 m))→
  Calls Tryz.prog 31 #[QW m h 1 q C1 C2 ev n1 n2 N b1 b2 bd j1 j2 jd] w fun e w'=>∃(a:Option Addr) (c:Nat) (R:List Rw) (ab:Option Addr) (cb:Nat),R.map (·.xs)=[X]∧e= .returned (.tuple #[.agg #[.int .i64 m, .int .i64 h, .slice a R.length c], .slice ab 1 cb, .int .i64 0])∧Ca w w' a c R [own 3 1 ab 1 cb ([(k:Int)].map (Value.int .i64))]):=
  AD fun w b1 b2 bd j1 j2 N jd s1 s2 sd hm=>by
   refine (HGG.out.saved (fun j=>j==k) w b1 b2 bd n1 j1 n2 j2 N jd s1 s2 sd hm).mono fun e w' hh=>?_
   obtain ⟨a,c,R,ab,cb,nb,r1,r2,r3,r4⟩:=hh
   rw [HLL.out,HLX.out] at r1
   rw [HONE.out] at r2 r4
   obtain rfl:1=nb:=r2
   exact ⟨a,c,R,ab,cb,r1,r3,r4⟩
 repeat' (first
  | (refine As 32 ?_);refine At AA Tryz.call32 (XU _ m h (by omega) (n:Int) HQ3.out) (Fp hS ?_);clear hS;intro w hS;go_step|(refine As 33 ?_);refine At AA Tryz.call33 (HPC.out _) (Fp hS ?_);clear hS;intro w hS;go_step|(refine As 28 ?_);refine At AA Tryz.call28 (HRS.out _) ?_;rintro e w' ⟨rfl,rfl⟩;refine Ac ?_;go_step|(refine As 34 ?_);refine At AA Tryz.call34 (HHU.out _ (hS.sl AL) (hS.sl AL) (hS.sl AL)) ?_;rintro e w ⟨d1,d2,dd,i1,i2,id9,N9,rfl,hS2⟩;unfold QW;replace hS:=hS.call hS2;clear hS2;simp only [List.cons_append,List.nil_append] at hS;refine Ac ?_;go_step|(refine As 31 ?_);refine At AA Tryz.call31 (HSV.out _ d1 d2 dd i1 i2 N9 id9 (hS.sl AL) (hS.sl AL) (hS.sl AL) (HML.out.imp fun m h=>hS.1.cell h)) ?_;rintro e w ⟨a6,c6,R6,ab,cb,hR6,rfl,hP9⟩;replace hS:=hS.call hP9;clear hP9;simp only [List.cons_append,List.nil_append] at hS;have HR6:=AD hR6;clear hR6;refine Ac ?_;go_step|refine X0 ?_|(refine AQ 48 ?_);(refine An AA (V.fieldAddr Fx rfl A7) ?_;go_step)|(refine AQ 50 ?_);(refine An AA (V.fieldAddr Ke rfl A7) ?_;go_step)|refine X3 53 ?_|refine X3 54 ?_|refine X3 64 ?_|refine X3 65 ?_|refine X3 69 ?_|refine X3 70 ?_|refine X3 71 ?_|refine X9 ?_|refine P8 ?_|refine YC 15 ?_;clear hS;intro g15 w hS|refine YD ?_;clear hS;intro w hS|refine UU 17 ?_;clear hS;intro g17 w hS|refine UV ?_;clear hS;intro w hS|refine AG ?_;go_step|fail)
 all_goals (try exact AR)
 have hPI:=BU.of (a:=a6) (c:=c6) (R:=R6) hS AL AL
 have hPJ:=BU.of (a:=a5) (c:=c5) (R:=R5) hS AL AL
 have h17:w.cell? ⟨g17,2,none⟩=some (.slice a6 R6.length c6):=IA (g:=g17) (k:=2) hS AL rfl
 have h11:w.cell? ⟨g11,2,none⟩=some (.slice a5 R5.length c5):=IA (g:=g11) (k:=2) hS AL rfl
 have h40:w.cell? ⟨g4,0,none⟩=some (.int .i64 m):=IA (g:=g4) (k:=0) hS AL rfl
 have h41:w.cell? ⟨g4,1,none⟩=some (.int .i64 h):=IA (g:=g4) (k:=1) hS AL rfl
 have hbad:Sl w 1 (.slice ab 1 cb) 1 ([(k:Int)].map (Value.int .i64)):=hS.sl (a:=ab) AL
 have hE9:=hS.1
 obtain ⟨r0,u0,rfl⟩:=Z3 HR6.out
 obtain ⟨s0,v0,rfl⟩:=Z3 HR5.out
 obtain ⟨bb,off,rfl,hcl⟩:=Dx hPI.sl (by show 0<1;omega)
 obtain ⟨bc,of2,rfl,hcm2⟩:=Dx hPJ.sl (by show 0<1;omega)
 have h17':w.cell? ⟨g17,2,none⟩=some (.slice (some ⟨bb,off,none⟩) 1 c6):=h17
 have h11':w.cell? ⟨g11,2,none⟩=some (.slice (some ⟨bc,of2,none⟩) 1 c5):=h11
 have x0:w.cell? ⟨bb,off,none⟩=some (.slice r0 M u0):=by have:=hcl 0 _ rfl;rw [Rw.val,HXL.out] at this;exact this
 have y0:w.cell? ⟨bc,of2,none⟩=some (.slice s0 M v0):=by have:=hcm2 0 _ rfl;rw [Rw.val,HYL.out] at this;exact this
 have hvx:Sl w 1 (.slice r0 M u0) M (X.map (Value.int .i64)):=by have:=hPI.row ⟨r0,u0,X⟩ (by simp);rw [Rw.val] at this;dsimp only at this;rw [HXL.out] at this;exact this
 have hvy:Sl w 1 (.slice s0 M v0) M (Y.map (Value.int .i64)):=by have:=hPJ.row ⟨s0,v0,Y⟩ (by simp);rw [Rw.val] at this;dsimp only at this;rw [HYL.out] at this;exact this
 have HEQ:Hid (∀w' g,Ai w w'→Sl w' 1 (.slice (some ⟨g,0,none⟩) 1 1) 1 [.int .i64 k]→Calls Tryz.prog 29 #[.slice ab 1 cb, .slice (some ⟨g,0,none⟩) 1 1] w' fun e w''=>e= .returned (.bool true)∧w'=w''):=AD fun w' g hx h2=>by
  refine (ML w' _ _ [(k:Int)] [(k:Int)] (hbad.ext hx) h2).mono fun e w'' hh=>?_
  rw [decide_eq_true rfl] at hh
  exact hh
 clear hS hPI hPJ hcl hcm2 h17 h11 HGG HHU HSV HPC HRS HV hC1 hC2 HONE HLL HLX HQ3 hbad
 obtain ⟨W1,hW1⟩:∃z,z=w:=⟨w,rfl⟩
 subst hW1
 have hS:=St.start W1
 refine AP [] (fun w=>St W1 w []) AA ?_
 replace hS:=hS.drew
 focus
  refine AZ 0 ?_
  (refine Me 1 _ Aj AA AA AA Be (V.neq rfl rfl) AA (fun hB=>?_) (fun hB=>?_))
  rotate_left 1
  focus
   (try exact AR)
   all_goals
    go_step
    refine AZ 2 ?_
    refine AZ 3 ?_
    (refine Me 4 _ Aj AA AA AA Be (V.neq rfl rfl) AA (fun hB=>?_) (fun hB=>?_))
    rotate_left 1
    focus
     (try exact AR)
     all_goals
      go_step
      refine CF 5 Aj AA AA AA Be rfl AA ?_
      go_step
      refine AZ 6 ?_
      refine AZ 7 ?_
      (refine Me 8 _ Aj AA AA AA Be (V.neq rfl rfl) AA (fun hB=>?_) (fun hB=>?_))
      rotate_left 1
      focus
       (try exact AR)
       all_goals
        go_step
        refine CF 9 Aj AA AA AA Be rfl AA ?_
        go_step
        refine AZ 10 ?_
        refine AZ 11 ?_
        refine AZ 12 ?_
        refine Av 13 ?_
        (refine AU (o:=⟨some 85,_,_,_,_,_⟩) hS 30 1 _ rfl 3 1 8 M9 _ _ (by (repeat (first|exact AW.nil|(apply AW.agg;(rfl);(rfl))|(apply AW.one;exact CI;(rfl);(rfl))))) (by rfl) (by decide) (by decide) ?_;clear hS;intro g85 w hS)
        refine ⟨fun _ _=>hS.sub AV,?_⟩
        refine AI ?_
        go_step
        refine Av 14 ?_
        refine AY (f:=29) rfl Tryz.call29 (HEQ.out _ g85 hS.1 (hS.slBlk (n:=1) (s:=1) AL rfl (by decide))) ?_;rintro e w' ⟨rfl,rfl⟩;refine ⟨_,rfl,?_⟩
        refine ⟨fun _ _=>hS.sub AV,?_⟩
        refine AI ?_
        go_step
        (refine Z9 15 _ Aj AA AA AA Be (V.not rfl) AA (fun hB=>?_) (fun hB=>?_))
        rotate_left 1
        focus
         (try exact AR)
         all_goals
          go_step
          refine CF 16 Aj AA AA AA Be rfl AA ?_
          go_step
          refine AZ 17 ?_
          refine BZ 18 BN (V.fieldAddr Fy rfl A7) ?_;go_step
          refine fY 19 [20,21,22,23,24,25,26,27,28,29,30,31,32,33,34,35] ?_
          refine BZ 20 BN (V.len Tryz.underlying22 rfl) ?_;go_step
          (refine Me 21 _ Aj AA AA AA Be (V.neq rfl rfl) AA (fun hB=>?_) (fun hB=>?_))
          rotate_left 1
          focus
           (try exact AR)
           all_goals
            go_step
            refine CF 22 Aj AA AA AA Be rfl AA ?_
            go_step
            refine AZ 23 ?_
            refine BZ 24 BN (V.fieldAddr Fy rfl A7) ?_;go_step
            refine fY 25 [26,27,28,34,35] ?_
            refine ep 26 ?_
            refine dH 27 [28,34,35] ?_
            refine BZ 28 BN (V.len Tryz.underlying30 rfl) ?_;go_step
            refine BZ 29 BN (V.fieldAddr Fx rfl A7) ?_;go_step
            refine Y8 30 [33,34,35] ?_
            refine BZ 31 BN (V.fieldAddr Ke rfl A7) ?_;go_step
            refine Y8 32 [33,34,35] ?_
            (refine BV 33 (.int _ ((M:Int))) Aj AA AA AA Be (V.as (V.mulI rfl rfl (by omega)) (by omega)) AA ?_)
            go_step
            refine BZ 34 BN (V.neq rfl rfl) ?_;go_step
            refine CF 35 Aj AA AA AA Be rfl AA ?_
            go_step
            refine AE AA ?_ _
          rotate_right 1
          focus
           (try exact AR)
           all_goals
            go_step
            refine CF 22 Aj AA AA AA Be rfl AA ?_
            go_step
            refine AZ 23 ?_
            refine BT 24 ?_
            refine BT 25 ?_
            refine BT 26 ?_
            refine BT 27 ?_
            refine BT 28 ?_
            refine BT 29 ?_
            refine BT 30 ?_
            refine BT 31 ?_
            refine BT 32 ?_
            refine BT 33 ?_
            refine BT 34 ?_
            refine BS 35 Aj AA AA AA Be rfl AA ?_
            go_step
            refine AE AA ?_ _
        rotate_right 1
        focus
         (try exact AR)
         all_goals
          go_step
          refine CF 16 Aj AA AA AA Be rfl AA ?_
          go_step
          refine AZ 17 ?_
          refine BT 18 ?_
          refine BT 19 ?_
          refine BT 20 ?_
          refine BT 21 ?_
          refine BS 22 Aj AA AA AA Be rfl AA ?_
          go_step
          refine AZ 23 ?_
          refine BT 24 ?_
          refine BT 25 ?_
          refine BT 26 ?_
          refine BT 27 ?_
          refine BT 28 ?_
          refine BT 29 ?_
          refine BT 30 ?_
          refine BT 31 ?_
          refine BT 32 ?_
          refine BT 33 ?_
          refine BT 34 ?_
          refine BS 35 Aj AA AA AA Be rfl AA ?_
          go_step
          refine AE AA ?_ _
      rotate_right 1
      focus
       (try exact AR)
       all_goals
        go_step
        refine CF 9 Aj AA AA AA Be rfl AA ?_
        go_step
        refine AZ 10 ?_
        refine BT 11 ?_
        refine BT 12 ?_
        refine BT 13 ?_
        refine BT 14 ?_
        refine BT 15 ?_
        refine BS 16 Aj AA AA AA Be rfl AA ?_
        go_step
        refine AZ 17 ?_
        refine BT 18 ?_
        refine BT 19 ?_
        refine BT 20 ?_
        refine BT 21 ?_
        refine BS 22 Aj AA AA AA Be rfl AA ?_
        go_step
        refine AZ 23 ?_
        refine BT 24 ?_
        refine BT 25 ?_
        refine BT 26 ?_
        refine BT 27 ?_
        refine BT 28 ?_
        refine BT 29 ?_
        refine BT 30 ?_
        refine BT 31 ?_
        refine BT 32 ?_
        refine BT 33 ?_
        refine BT 34 ?_
        refine BS 35 Aj AA AA AA Be rfl AA ?_
        go_step
        refine AE AA ?_ _
    rotate_right 1
    focus
     (try exact AR)
     all_goals
      go_step
      refine CF 5 Aj AA AA AA Be rfl AA ?_
      go_step
      refine AZ 6 ?_
      refine BT 7 ?_
      refine BT 8 ?_
      refine BS 9 Aj AA AA AA Be rfl AA ?_
      go_step
      refine AZ 10 ?_
      refine BT 11 ?_
      refine BT 12 ?_
      refine BT 13 ?_
      refine BT 14 ?_
      refine BT 15 ?_
      refine BS 16 Aj AA AA AA Be rfl AA ?_
      go_step
      refine AZ 17 ?_
      refine BT 18 ?_
      refine BT 19 ?_
      refine BT 20 ?_
      refine BT 21 ?_
      refine BS 22 Aj AA AA AA Be rfl AA ?_
      go_step
      refine AZ 23 ?_
      refine BT 24 ?_
      refine BT 25 ?_
      refine BT 26 ?_
      refine BT 27 ?_
      refine BT 28 ?_
      refine BT 29 ?_
      refine BT 30 ?_
      refine BT 31 ?_
      refine BT 32 ?_
      refine BT 33 ?_
      refine BT 34 ?_
      refine BS 35 Aj AA AA AA Be rfl AA ?_
      go_step
      refine AE AA ?_ _
  rotate_right 1
  focus
   (try exact AR)
   all_goals
    go_step
    refine AZ 2 ?_
    refine BT 3 ?_
    refine BT 4 ?_
    refine BS 5 Aj AA AA AA Be rfl AA ?_
    go_step
    refine AZ 6 ?_
    refine BT 7 ?_
    refine BT 8 ?_
    refine BS 9 Aj AA AA AA Be rfl AA ?_
    go_step
    refine AZ 10 ?_
    refine BT 11 ?_
    refine BT 12 ?_
    refine BT 13 ?_
    refine BT 14 ?_
    refine BT 15 ?_
    refine BS 16 Aj AA AA AA Be rfl AA ?_
    go_step
    refine AZ 17 ?_
    refine BT 18 ?_
    refine BT 19 ?_
    refine BT 20 ?_
    refine BT 21 ?_
    refine BS 22 Aj AA AA AA Be rfl AA ?_
    go_step
    refine AZ 23 ?_
    refine BT 24 ?_
    refine BT 25 ?_
    refine BT 26 ?_
    refine BT 27 ?_
    refine BT 28 ?_
    refine BT 29 ?_
    refine BT 30 ?_
    refine BT 31 ?_
    refine BT 32 ?_
    refine BT 33 ?_
    refine BT 34 ?_
    refine BS 35 Aj AA AA AA Be rfl AA ?_
    go_step
    refine AE AA ?_ _
 all_goals
  repeat' (first|(refine AG ?_;go_step)|fail)
 all_goals (try exact Jn hB)
 all_goals (try (have hF:False:=(hB rfl);cases hF))
 obtain ⟨ac,hac⟩:∃z,(m+7)/8=z:=⟨_,rfl⟩
 have hac8:1≤ac∧ac≤8:=by omega
 repeat' (first
  | (refine AQ 111 ?_);(refine Ag (.int _ (ac)) (V.as (V.quo rfl rfl (by omega) (by omega)) (by omega)) (by kernel_rfl) ?_;go_step)|refine X0 ?_|(refine AQ 108 ?_);(refine An AA (V.fieldAddr Fx rfl A7) ?_;go_step)|refine Mx 110 ?_|refine Xy 112 ?_|(refine AQ 114 ?_);(refine An AA (V.indexSl Tryz.underlying22 Ff rfl rfl (show Bk 0 0 from rfl) (by omega) (show 0*1=0 from rfl) A7) ?_;go_step)|refine TA 116 ?_|refine XG ?_|(with_reducible refine Ak _ (.load 22 _) ?_);(refine Ad ?_;apply Aa hS 22 _ rfl _ rfl (AH rfl) _;(case hc=>with_reducible assumption);refine AB ?_;go_step)|refine Zp ?_|refine AG ?_;go_step|fail)
 all_goals (try exact AR)
 go_loopg [117] M (fun gk kv w=>∃x:Nat,gk+x=M∧kv= .int .i64 x∧St W1 w [])
 case atStart=>exact ⟨0,rfl,rfl,hS.sub AV⟩
 case round=>
  clear hS
  obtain ⟨x,hx,rfl,hS⟩:=hrel
  by_cases hlt:x<M
  ·obtain ⟨b,hb,hjb,hval⟩:=HPX.out x hlt
   unfold EB at hjb
   rw [hac] at hjb
   have t1:0≤(x:Int)/m:=Int.ediv_nonneg (by omega) (by omega)
   have t2:(x:Int)/m≤x:=Int.ediv_le_self m (by omega)
   have t3:=Int.emod_nonneg (x:Int) (b:=m) (by omega)
   have t4:=Int.emod_lt_of_pos (x:Int) (b:=m) (by omega)
   obtain ⟨p0,hp0⟩:∃z,(x:Int)/m/8*ac=z:=⟨_,rfl⟩
   have t5:0≤p0:=by rw [←hp0];exact Int.mul_nonneg (by omega) (by omega)
   rw [hp0] at hjb
   repeat' (first
    | refine X0 ?_|refine X5 118 ?_|refine Xi 120 ?_;intro b120 o120 hc120;go_step|refine XG ?_|refine AG ?_;go_step|fail)
   all_goals (try exact AR)
   refine AP [] (fun w=>St W1 w []) AA ?_
   replace hS:=hS.drew
   focus
    refine AZ 0 ?_
    refine BZ 1 BN (V.fieldAddr Fx rfl A7) ?_;go_step
    refine Y8 2 [3,4,6,12,13] ?_
    refine bf 3 ?_
    refine bf 4 ?_
    refine AZ 5 ?_
    (refine BV 6 (.int _ (p0)) Aj AA AA AA Be (V.as (V.mulI rfl rfl (by omega)) (by omega)) AA ?_)
    go_step
    refine AZ 7 ?_
    refine BZ 8 BN (V.fieldAddr Fx rfl A7) ?_;go_step
    refine Y8 9 [10,11,12,13] ?_
    refine BZ 10 BN (V.rem rfl rfl (by omega) (by omega)) ?_;go_step
    refine bf 11 ?_
    (refine BV 12 (.int _ ((b:Int))) Aj AA AA AA Be (V.as (V.addI rfl rfl (by omega)) (by omega)) AA ?_)
    go_step
    refine AZ 13 ?_
    refine AE AA ?_ _
   all_goals
    repeat' (first|(refine AG ?_;go_step)|fail)
   obtain ⟨o,ho⟩:∃o,Z4 ev b=o:=⟨_,rfl⟩
   rw [ho] at hval
   have hv2:(o=k∧AJ X x=128)∨(o≠k∧AJ X x=AJ Y x):=by
    by_cases h9:o=k
    ·exact .inl ⟨h9,by rw [hval,if_pos h9]⟩
    exact .inr ⟨h9,by rw [hval,if_neg h9]⟩
   clear hval
   by_cases hev0:ev=0
   ·have ho0:o=0:=by rw [←ho];unfold Z4;rw [if_pos hev0]
    clear ho
    repeat' (first
     | refine X0 ?_|refine KN 136 ?_|refine AG ?_;go_step|fail)
    all_goals (try exact AR)
    rcases hv2 with ⟨w1,w2⟩|⟨w1,w2⟩
    all_goals
     repeat' (first
      | go_big_skip|((with_reducible refine Io ?_);(first|go_big_want|go_step);go_step)|((with_reducible refine Ak _ (.pick _ _ _) ?_);first|(refine A6 rfl AA ?_;go_step)|(refine A3 rfl AA ?_;go_step))|((refine AQ 142 ?_);(refine CG _ (V.neq rfl rfl) AA (fun hB=>?_) (fun hB=>?_)<;>(try exact AR)<;>go_step))|((refine AQ 152 ?_);(refine CG _ (V.neq rfl rfl) AA (fun hB=>?_) (fun hB=>?_)<;>(try exact AR)<;>go_step))|((refine AQ 157 ?_);(refine CG _ (V.eql rfl rfl) AA (fun hB=>?_) (fun hB=>?_)<;>(try exact AR)<;>go_step))|((refine AQ 145 ?_);(refine An AA (V.fieldAddr Fy rfl A7) ?_;go_step))|((refine AQ 147 ?_);(refine An AA (V.indexSl Tryz.underlying22 Ff rfl rfl (show Bk 0 0 from rfl) (by omega) (show 0*1=0 from rfl) A7) ?_;go_step))|((refine AQ 150 ?_);(refine Di (by with_reducible assumption) Tryz.underlying30 ET rfl rfl A9 (by omega) AA ?_;intro b150 o150 hc150;go_step))|((refine AQ 160 ?_);(refine An AA (V.neq rfl rfl) ?_;go_step))|((with_reducible refine Ak _ (.load 22 _) ?_);(refine Ad ?_;apply Aa hS 22 _ rfl _ rfl (AH rfl) _;(case hc=>with_reducible assumption);refine AB ?_;go_step))|((with_reducible refine Ak _ (.load 30 _) ?_);(refine Ad ?_;apply Aa hS 30 _ rfl _ rfl (AH rfl) _;(case hc=>with_reducible assumption);refine AB ?_;go_step))|((with_reducible refine Ak _ (.load 3 _) ?_);(refine Ad ?_;apply Aa hS 3 _ rfl _ rfl (AH rfl) _;(case hc=>with_reducible assumption);refine AB ?_;go_step))|(refine AG ?_;go_step)|fail)
     all_goals (try exact AR)
     repeat' (first
      | refine X1 ?_|refine Mx 163 ?_|refine AG ?_;go_step|fail)
     go_roundg (gk-1)
     case measure=>omega
     case rel=>exact ⟨x+1,by omega,by go_num,hS.sub AV⟩
   have ho0:(b:Int)/(ev:Int)=(o:Int):=by rw [←ho];unfold Z4;rw [if_neg hev0,Int.natCast_ediv]
   clear ho
   repeat' (first
    | (refine AQ 139 ?_);(refine Ag (.int _ ((o:Int))) (V.as (V.quo rfl rfl (by omega) (by omega)) (by omega)) (by kernel_rfl) ?_;go_step)|refine X0 ?_|refine KN 136 ?_|refine AG ?_;go_step|fail)
   all_goals (try exact AR)
   rcases hv2 with ⟨w1,w2⟩|⟨w1,w2⟩
   all_goals
    repeat' (first
     | go_big_skip|((with_reducible refine Io ?_);(first|go_big_want|go_step);go_step)|((with_reducible refine Ak _ (.pick _ _ _) ?_);first|(refine A6 rfl AA ?_;go_step)|(refine A3 rfl AA ?_;go_step))|((refine AQ 142 ?_);(refine CG _ (V.neq rfl rfl) AA (fun hB=>?_) (fun hB=>?_)<;>(try exact AR)<;>go_step))|((refine AQ 152 ?_);(refine CG _ (V.neq rfl rfl) AA (fun hB=>?_) (fun hB=>?_)<;>(try exact AR)<;>go_step))|((refine AQ 157 ?_);(refine CG _ (V.eql rfl rfl) AA (fun hB=>?_) (fun hB=>?_)<;>(try exact AR)<;>go_step))|((refine AQ 145 ?_);(refine An AA (V.fieldAddr Fy rfl A7) ?_;go_step))|((refine AQ 147 ?_);(refine An AA (V.indexSl Tryz.underlying22 Ff rfl rfl (show Bk 0 0 from rfl) (by omega) (show 0*1=0 from rfl) A7) ?_;go_step))|((refine AQ 150 ?_);(refine Di (by with_reducible assumption) Tryz.underlying30 ET rfl rfl A9 (by omega) AA ?_;intro b150 o150 hc150;go_step))|((refine AQ 160 ?_);(refine An AA (V.neq rfl rfl) ?_;go_step))|((with_reducible refine Ak _ (.load 22 _) ?_);(refine Ad ?_;apply Aa hS 22 _ rfl _ rfl (AH rfl) _;(case hc=>with_reducible assumption);refine AB ?_;go_step))|((with_reducible refine Ak _ (.load 30 _) ?_);(refine Ad ?_;apply Aa hS 30 _ rfl _ rfl (AH rfl) _;(case hc=>with_reducible assumption);refine AB ?_;go_step))|((with_reducible refine Ak _ (.load 3 _) ?_);(refine Ad ?_;apply Aa hS 3 _ rfl _ rfl (AH rfl) _;(case hc=>with_reducible assumption);refine AB ?_;go_step))|(refine AG ?_;go_step)|fail)
    all_goals (try exact AR)
    repeat' (first
     | refine X1 ?_|refine Mx 163 ?_|refine AG ?_;go_step|fail)
    go_roundg (gk-1)
    case measure=>omega
    case rel=>exact ⟨x+1,by omega,by go_num,hS.sub AV⟩
  obtain rfl:M=x:=by omega
  repeat' (first
   | refine X8 ?_|refine X5 118 ?_|refine AG ?_;go_step|fail)
  all_goals (try exact AR)
  go_ret
  exact ⟨rfl,hE9.trans hS.1⟩
def CU:Array Value:=#[.agg #[.int .i64 0, .int .i64 0, .slice none 0 0], .agg #[.int .i64 0, .int .i64 0, .int .i64 0, .int .i64 0, .int .i64 0, .int .i64 0, .int .i64 0, .int .i64 0, .int .i64 0, .int .i64 0, .int .i64 0, .int .i64 0, .int .i64 0, .int .i64 0, .int .i64 0, .int .i64 0, .int .i64 0, .int .i64 0, .int .i64 0, .int .i64 0, .int .i64 0, .int .i64 0, .int .i64 0, .int .i64 0, .int .i64 0, .int .i64 0, .int .i64 0, .int .i64 0, .int .i64 0, .int .i64 0, .int .i64 0, .int .i64 0, .int .i64 0, .int .i64 0, .int .i64 0, .int .i64 0, .int .i64 0, .int .i64 0, .int .i64 0, .int .i64 0, .int .i64 0, .int .i64 0, .int .i64 0, .int .i64 0, .int .i64 0, .int .i64 0, .int .i64 0, .int .i64 0, .int .i64 0, .int .i64 0, .int .i64 0, .int .i64 0, .int .i64 0, .int .i64 0, .int .i64 0, .int .i64 0, .int .i64 0, .int .i64 0, .int .i64 0, .int .i64 0, .int .i64 0, .int .i64 0, .int .i64 0, .int .i64 0], .int .i64 0, .int .i64 0]
theorem KH:ownKnob Tryz.prog.godebug=none:=by kernel_rfl
theorem CL:laidOutB Tryz.prog=true:=by kernel_rfl
theorem KG(os:Os)(args:Array Value):laidMetH Tryz.prog Rows.rescueHurtRow.laid ((World.laidAll Tryz.prog os Rows.rescueHurtRow.laid).forCall (fun _ _=>0) ⟨#[],args,[]⟩).memory:=by
 rw [MakeChecks.laidMetH_plain _ _ _ AA];exact laidMet_laidAll _ AA AA
theorem Ir(os:Os){H:Type}(enc:TypeId×Value→H):∃places,DataW.whole enc Tryz.prog ((World.laidAll Tryz.prog os Rows.rescueHurtRow.laid).forCall (fun _ _=>0) ⟨#[],CU,[]⟩).memory Tryz.f10.params.toList Rows.rescueHurtSpec.vars false (CU:Array Value).toList 8=some ([.agg [.lit (.int .i64 0), .lit (.int .i64 0), .nil], .agg [.lit (.int .i64 0), .lit (.int .i64 0), .lit (.int .i64 0), .lit (.int .i64 0), .lit (.int .i64 0), .lit (.int .i64 0), .lit (.int .i64 0), .lit (.int .i64 0), .lit (.int .i64 0), .lit (.int .i64 0), .lit (.int .i64 0), .lit (.int .i64 0), .lit (.int .i64 0), .lit (.int .i64 0), .lit (.int .i64 0), .lit (.int .i64 0), .lit (.int .i64 0), .lit (.int .i64 0), .lit (.int .i64 0), .lit (.int .i64 0), .lit (.int .i64 0), .lit (.int .i64 0), .lit (.int .i64 0), .lit (.int .i64 0), .lit (.int .i64 0), .lit (.int .i64 0), .lit (.int .i64 0), .lit (.int .i64 0), .lit (.int .i64 0), .lit (.int .i64 0), .lit (.int .i64 0), .lit (.int .i64 0), .lit (.int .i64 0), .lit (.int .i64 0), .lit (.int .i64 0), .lit (.int .i64 0), .lit (.int .i64 0), .lit (.int .i64 0), .lit (.int .i64 0), .lit (.int .i64 0), .lit (.int .i64 0), .lit (.int .i64 0), .lit (.int .i64 0), .lit (.int .i64 0), .lit (.int .i64 0), .lit (.int .i64 0), .lit (.int .i64 0), .lit (.int .i64 0), .lit (.int .i64 0), .lit (.int .i64 0), .lit (.int .i64 0), .lit (.int .i64 0), .lit (.int .i64 0), .lit (.int .i64 0), .lit (.int .i64 0), .lit (.int .i64 0), .lit (.int .i64 0), .lit (.int .i64 0), .lit (.int .i64 0), .lit (.int .i64 0), .lit (.int .i64 0), .lit (.int .i64 0), .lit (.int .i64 0), .lit (.int .i64 0)], .lit (.int .i64 0), .lit (.int .i64 0)],[],places):=
 ⟨[],by kernel_rfl⟩
theorem H5(os:Os)(started:os.Started)(H:Type)(enc:TypeId×Value→H)(F:Stop.Interp):
 ReturnsInHanded {} Tryz.checked os 10 .any ((OpenSpec.ofChange Rows.rescueHurtSpec).preRow enc Tryz.prog Tryz.f10 Rows.rescueHurtRow.domain false Rows.rescueHurtRow.laid) (((OpenSpec.ofChange Rows.rescueHurtSpec).at F).post enc Tryz.prog Tryz.f10 false true false false):=by
 obtain ⟨places,hx⟩:=Ir os enc
 have hok:Input.okWideB Tryz.prog ((World.laidAll Tryz.prog os Rows.rescueHurtRow.laid).forCall (fun _ _=>0) ⟨#[],CU,[]⟩) 10 ⟨#[],CU,[]⟩=true:=by kernel_rfl
 refine returnsInHanded_of_row (C:=Tryz.checked) (s:=OpenSpec.ofChange Rows.rescueHurtSpec) KH started AA Tryz.func10
  ⟨(World.laidAll Tryz.prog os Rows.rescueHurtRow.laid),fun _ _=>0,⟨#[],CU,[]⟩,World.laidAll_os _ _ _,World.shaped_of_ZipB AA AA,(Input.okWide_of_okWideB (base:=0) hok).1,(Input.okWide_of_okWideB hok).2,
   OpenSpec.preRow_of_cond 8 hx AA (fun k hk=>by cases hk) AA (KG os _),by
   simp only [Assume.holds]
   exact ⟨by simp,by simp,by simp,by simp,by simp⟩⟩ ?_
 intro W base args ds gs before hval0 hW _ hk _ hL hsh _
 have hval:∀(j:Nat) t v,Tryz.f10.params[j]? =some t→args[j]? =some v→Value.okWide Tryz.prog W .any base t v:=hval0
 have hW':=hW
 obtain ⟨p,q,hA0,hV,rfl,hfz,hnd⟩:=hW
 have hA:DataW.TrodAll enc Tryz.prog W 0 (fun _=>true) true Tryz.f10.params.toList args.toList ds p:=hA0
 rw [Tryz.params10] at hA hval
 obtain ⟨v0,vs0,d0,ds0,p0,q0,hargs,rfl,rfl,h0,r0⟩:=trodAll_cons hA
 obtain ⟨v1,vs1,d1,ds1,p1,q1,rfl,rfl,rfl,h1,r1⟩:=trodAll_cons r0
 obtain ⟨v2,vs2,d2,ds2,p2,q2,rfl,rfl,rfl,h2,r2⟩:=trodAll_cons r1
 obtain ⟨v3,vs3,d3,ds3,p3,q3,rfl,rfl,rfl,h3,r3⟩:=trodAll_cons r2
 obtain ⟨rfl,rfl,rfl⟩:=trodAll_nil r3
 obtain rfl:args=#[v0,v1,v2,v3]:=by cases args;simp_all
 obtain ⟨rfl,rfl⟩:=trodVars_none hV
 have lt0:∀x∈p0,x.block<W.heap.size:=by obtain ⟨m,hm⟩:=h0;exact DataW.trod_lt m _ _ _ hm
 have lt1:∀x∈p1,x.block<W.heap.size:=by obtain ⟨m,hm⟩:=h1;exact DataW.trod_lt m _ _ _ hm
 have lt2:∀x∈p2,x.block<W.heap.size:=by obtain ⟨m,hm⟩:=h2;exact DataW.trod_lt m _ _ _ hm
 have lt3:∀x∈p3,x.block<W.heap.size:=by obtain ⟨m,hm⟩:=h3;exact DataW.trod_lt m _ _ _ hm
 refine (Jl W (hval 0 24 v0 rfl rfl) h0 lt0 (hval 1 26 v1 rfl rfl) h1 lt1 (hval 2 3 v2 rfl rfl) h2 lt2 (hval 3 3 v3 rfl rfl) h3 lt3 hsh).mono fun e W' ⟨he,bel⟩=>?_
 subst he
 exact ⟨_,rfl,_,_,_,[],_,[],hW',trodAll_mk1 (shut_bool Tryz.underlying4 _),(trodAll_cons_mk (Below.trod CL AA (of_decide_eq_true AA) h0 bel lt0) (trodAll_cons_mk (Below.trod CL AA (of_decide_eq_true AA) h1 bel lt1) (trodAll_cons_mk (Below.trod CL AA (of_decide_eq_true AA) h2 bel lt2) (trodAll_cons_mk (Below.trod CL AA (of_decide_eq_true AA) h3 bel lt3) trodAll_mk0)))),rfl,bel.frame _,fun h=>by cases h⟩
end Go.Proofs.YtohacgmhmbijmaaGreatDoor
