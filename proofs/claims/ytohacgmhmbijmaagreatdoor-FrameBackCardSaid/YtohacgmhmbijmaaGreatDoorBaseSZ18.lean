/- What the laws RescueWhole TopTold FrameBack need, part 18. -/
import Derived.Test.YtohacgmhmbijmaaGreatDoorBaseSZ1
import Derived.Test.YtohacgmhmbijmaaGreatDoorBaseSZ2
import Derived.Test.YtohacgmhmbijmaaGreatDoorBaseSZ3
import Derived.Test.YtohacgmhmbijmaaGreatDoorBaseSZ5
import Derived.Test.YtohacgmhmbijmaaGreatDoorBaseSZ6
import Derived.Test.YtohacgmhmbijmaaGreatDoorBaseSZ10
import Derived.Test.YtohacgmhmbijmaaGreatDoorBaseSZ11
import Derived.Test.YtohacgmhmbijmaaGreatDoorBaseSZ16
import Derived.Test.YtohacgmhmbijmaaGreatDoorBaseSZ17
import Derived.Test.YtohacgmhmbijmaaGreatDoorProg
namespace Go.Proofs.YtohacgmhmbijmaaGreatDoor
attribute [local irreducible] Region.wanted
open Go.RowKit
set_option linter.unusedVariables false
set_option maxRecDepth 100000
set_option maxHeartbeats 8000000
theorem Of(n every:Nat):((BN n every).map fun x=>x.2-x.1).sum=n:=by
 have hl:(List.replicate (n*64) (0:Int)).length=n*64:=List.length_replicate
 have h:=congrArg List.length (Tm every hl)
 have key:∀L:List (Nat×Nat),(∀x∈L,x.1≤x.2∧x.2≤n)→(L.flatMap fun x=>BA (List.replicate (n*64) (0:Int)) x.1 x.2).length=(L.map fun x=>x.2-x.1).sum*64:=by
  intro L
  induction L with
  | nil=>intro _;rfl
  | cons x L ih=>
    intro hx
    obtain ⟨h1,h2⟩:=hx x (by simp)
    rw [List.flatMap_cons,List.length_append,ih fun y hy=>hx y (by simp [hy]),EN hl h1 h2,List.map_cons,List.sum_cons,Nat.add_mul]
 rw [key _ (Fp n every),hl] at h
 omega
theorem Ti(C1 S1 C2 S2:List Int):∀(L:List (Nat×Nat))(ps:List (List Int)),(Iv C1 S1 C2 S2 L ps).1=0→(Iv C1 S1 C2 S2 L ps).2.length=(L.map fun x=>x.2-x.1).sum*64
 | [],_,_=>rfl
 | x::L,ps,h=>by
   rw [Iv] at h⊢
   by_cases h0:(FQ C1 S1 C2 S2 (ps.headD []) ((x.2-x.1:Nat):Int)).1=0
   ·rw [if_neg (by simpa using h0)] at h⊢
    obtain ⟨n,e,_,hl⟩:=Iw h0
    have ih:=Ti C1 S1 C2 S2 L ps.tail h
    have:x.2-x.1=n:=by omega
    dsimp only
    rw [List.length_append,ih,hl,List.map_cons,List.sum_cons,Nat.add_mul,this]
   rw [if_pos (by simpa using h0)] at h
   exact absurd h h0
theorem ax{C1 S1 C2 S2 b:List Int}{n:Nat}{every:Int}(h:(IM C1 S1 C2 S2 b n every).1=0):(IM C1 S1 C2 S2 b n every).2.length=n*64:=by
 unfold IM at h⊢
 by_cases hw:Ks C1 S1 C2 S2 b n every=0
 ·rw [if_pos hw] at h⊢
  split at h
  ·cases h
  rename_i y hy
  by_cases h1:(Iv C1 S1 C2 S2 (BN (n:Int).toNat every.toNat) y.1).1=0
  ·rw [if_pos h1]
   rw [Ti _ _ _ _ _ _ h1,Of,Int.toNat_natCast]
  rw [if_neg h1] at h;exact absurd h h1
 rw [if_neg hw] at h;exact absurd h hw
structure FM(w:World)(f:A8)(a1 a2 ad:Option Addr)(n1 k1 n2 k2 nd kd:Nat):Prop where
 q:Ac f.quant 64
 l1:Ac f.c1 16
 l2:Ac f.c2 16
 s1:Sl w 1 (.slice a1 n1 k1) n1 (f.s1.map (Value.int .i64))
 s2:Sl w 1 (.slice a2 n2 k2) n2 (f.s2.map (Value.int .i64))
 b1:n1≤9223372036854775807
 b2:n2≤9223372036854775807
 sd:Sl w 1 (.slice ad nd kd) nd ((BV f).map (Value.int .u8))
 bd:nd≤9223372036854775807
 dlt:∀x∈f.data,x<256
theorem FM.ext{w w':World}{f:A8}{a1 a2 ad:Option Addr}{n1 k1 n2 k2 nd kd:Nat}(h:FM w f a1 a2 ad n1 k1 n2 k2 nd kd)(hE:Af w w'):FM w' f a1 a2 ad n1 k1 n2 k2 nd kd:=
 ⟨h.q,h.l1,h.l2,h.s1.ext hE,h.s2.ext hE,h.b1,h.b2,h.sd.ext hE,h.bd,h.dlt⟩
theorem FM.dl{w:World}{f:A8}{a1 a2 ad:Option Addr}{n1 k1 n2 k2 nd kd:Nat}(h:FM w f a1 a2 ad n1 k1 n2 k2 nd kd):f.data.length=nd:=by
 have:=h.sd.1
 rw [List.length_map,Nat.mul_one] at this
 rw [←this];unfold BV;rw [List.length_map]
theorem FM.chk{w:World}{f:A8}{a1 a2 ad:Option Addr}{n1 k1 n2 k2 nd kd:Nat}(h:FM w f a1 a2 ad n1 k1 n2 k2 nd kd):Calls Tryz.prog 52 #[fv f (.slice a1 n1 k1) (.slice a2 n2 k2) (.slice ad nd kd)] w fun e w'=>e= .returned (.int .i64 (Bo f))∧Af w w':=
 Ht w f a1 a2 ad n1 n2 nd k1 k2 kd h.q h.l1 h.l2 h.s1 h.s2 h.b1 h.b2 h.bd h.dl
theorem PZ{f:A8}(h:∀x∈f.data,x<256):∀x∈BV f,0≤x∧x<256:=by
 intro x hx
 obtain ⟨y,hy,rfl⟩:=List.mem_map.1 hx
 have:=h y hy
 omega
theorem fc (w:World):(Instr.build 24 #[]).run Tryz.prog w= .ok (.agg #[.int .i64 0, .int .i64 0, .slice none 0 0]) w:=by kernel_rfl
theorem NP(w0:World)(m h:Int)(hok:1≤m∧m≤64∧1≤h∧h≤64)(np K M:Nat)(hnp:np≤3)(hK:Ai m h=K)(hM:np*K=M)(Q C1 C2:List Int)(v1 v2 vd:Value)(ev:Int)(hQ:Ac Q 64)(hC1:Ac C1 16)(hC2:Ac C2 16):
 Calls Tryz.prog 53 #[.agg (AF [.val (.int .i64 m), .val (.int .i64 h), .val (.int .i64 np), .ints Q, .ints C1, .val v1, .ints C2, .val v2, .val (.int .i64 ev), .val vd]).toArray] w0 fun e w=>e= .returned (.int .i64 (M:Int))∧Af w0 w:=by
 have hS:=St.start w0
 obtain ⟨q1,q2,q3⟩:=Ed hok
 rw [hK] at q1 q2 q3
 have hn1:M≤192:=by
  have:=Nat.mul_le_mul hnp q2
  omega
 have HMU:Hid ((K:Int)*(np:Int)=(M:Int)):=by
  show (K:Int)*(np:Int)=(M:Int)
  rw [←Int.natCast_mul,Nat.mul_comm,hM]
 have HK:=AD q3
 clear q3
 go_enter Tryz.func53,Tryz.ntmps53
 repeat' (first
  | (refine Al 32 ?_);refine Am AA Tryz.call32 (IO _ m h) ?_;rintro e w ⟨rfl,hE⟩;replace hS:=hS.ext hE;clear hE;rw [if_pos hok,if_pos hok,HK.out];refine AX ?_;go_step|(refine AP 16 ?_);refine Ag (.int _ (M:Int)) (V.as (V.mulI rfl rfl (by rw [HMU.out];omega)) HMU.out) (by kernel_rfl) ?_;go_step|refine X0 ?_|refine Yp ?_|refine Zr ?_|refine X4 ?_|refine bp ?_|refine Js 1 ?_;clear hS;intro g1 w hS|refine Vx ?_|refine AH ?_;go_step|fail)
 all_goals (try exact AQ)
 go_ret
 exact ⟨rfl,hS.1⟩
noncomputable def O4(f:A8):Int×List Int:=IM f.c1 f.s1 f.c2 f.s2 (BV f) ((f.parts.toNat*Ai f.wide f.high:Nat):Int) f.every
noncomputable def Ma(f:A8):Int:=if Bo f=0 then (O4 f).1 else Bo f
noncomputable def Uq(f:A8):List (List Int):=Q3 f.wide f.high f.quant (O4 f).2 (Ai f.wide f.high) f.parts.toNat
def LS:Value:= .agg #[.int .i64 0, .int .i64 0, .slice none 0 0]
def O7(w0:World)(E m h:Int)(L:List (List Int))(e:Ending)(w:World):Prop:=
 (E≠0→e= .returned (.tuple #[LS, .int .i64 E])∧Af w0 w)∧
 (E=0→∃(a:Option Addr) (c:Nat) (R:List Rw),R.map (·.xs)=L∧e= .returned (.tuple #[.agg #[.int .i64 m, .int .i64 h, .slice a R.length c], .int .i64 0])∧Cc w0 w a c R [])
theorem Hq(w0:World)(f:A8)(a1 a2 ad:Option Addr)(n1 k1 n2 k2 nd kd:Nat)(hF:FM w0 f a1 a2 ad n1 k1 n2 k2 nd kd)(hml:∃m,w0.cell? ⟨0,0,none⟩=some (.int .i64 m)):
 Calls Tryz.prog 21 #[fv f (.slice a1 n1 k1) (.slice a2 n2 k2) (.slice ad nd kd)] w0 (O7 w0 (Ma f) f.wide f.high (Uq f)):=by
 have hS:=St.start w0
 have HC:=AD fun (w:World)(hx:Af w0 w)=>(hF.ext hx).chk
 obtain ⟨E,hE⟩:∃E,Bo f=E:=⟨_,rfl⟩
 rw [hE] at HC
 by_cases hz:E=0
 case neg=>
  have HDE:=AD (show Ma f=E by unfold Ma;rw [hE,if_neg hz])
  obtain ⟨L,hL⟩:∃L,Uq f=L:=⟨_,rfl⟩
  rw [hL]
  have hQ:=hF.q
  have hC1:=hF.l1
  have hC2:=hF.l2
  clear hF hL hE hml
  obtain ⟨W,H,p,Q,C1,S1,C2,S2,ev,D⟩:=f
  dsimp only at hQ hC1 hC2⊢
  show Calls Tryz.prog 21 #[.agg (AF [.val (.int .i64 W), .val (.int .i64 H), .val (.int .i64 p), .ints Q, .ints C1, .val (.slice a1 n1 k1), .ints C2, .val (.slice a2 n2 k2), .val (.int .i64 ev), .val (.slice ad nd kd)]).toArray] _ _
  go_enter Tryz.func21,Tryz.ntmps21
  repeat' (first
   | (refine Al 52 ?_);refine Am AA Tryz.call52 (HC.out _ hS.1) (EW hS ?_);clear hS;intro w hS;go_step|refine X0 ?_|refine X3 ?_|refine Zh 11 ?_|refine Js 1 ?_;clear hS;intro g1 w hS|refine GB 2 ?_;clear hS;intro g2 w hS|refine JE ?_|refine Ns ?_;clear hS;intro w hS|refine AH ?_;go_step|fail)
  all_goals (try exact AQ)
  refine AM (xs:=[_,_]) rfl (.cons (AB.blk hS rfl (AO (n:=3) rfl) AK rfl) (.cons (AB.tmp rfl) (.nil))) (by simp) rfl ?_
  exact ⟨fun _=>⟨by rw [HDE.out];rfl,hS.1⟩,fun h=>by rw [HDE.out] at h;exact absurd h hz⟩
 subst hz
 obtain ⟨⟨d1,d2,d3,d4⟩,hqk,e4,e5,hdl⟩:=FK hE
 have hdl':nd≤1000000000:=by rw [←hF.dl];omega
 obtain ⟨np,hnp⟩:∃np:Nat,f.parts=(np:Int):=⟨f.parts.toNat,by omega⟩
 have hnp3:np=1∨np=3:=by omega
 have hsz:=fun w=>NP w f.wide f.high ⟨d1.1,d1.2,d2.1,d2.2⟩ np (Ai f.wide f.high) (np*Ai f.wide f.high) (by omega) rfl rfl f.quant f.c1 f.c2 (.slice a1 n1 k1) (.slice a2 n2 k2) (.slice ad nd kd) f.every hF.q hF.l1 hF.l2
 have HSZ:=AD hsz
 have hpt:f.parts.toNat=np:=by omega
 have hdr:O4 f=IM f.c1 f.s1 f.c2 f.s2 (BV f) ((np*Ai f.wide f.high:Nat):Int) f.every:=by unfold O4;rw [hpt]
 have hdx:=PZ hF.dlt
 have HSC:Hid (∀w,Af w0 w→Calls Tryz.prog 20 #[.agg (AF [.ints f.c1, .val (.slice a1 n1 k1), .ints f.c2, .val (.slice a2 n2 k2)]).toArray, .slice ad nd kd, .int .i64 ((np*Ai f.wide f.high:Nat):Int), .int .i64 f.every] w (GA w (O4 f).1 (O4 f).2)):=fun w hx=>by
  rw [hdr]
  exact GS w f.c1 f.c2 f.s1 f.s2 a1 a2 n1 n2 k1 k2 hF.l1 hF.l2 (hF.s1.ext hx) (hF.s2.ext hx) hF.b1 hF.b2 ad nd kd (BV f) _ f.every hdl' (hF.sd.ext hx) hdx (hml.imp fun m h=>hx.cell h)
 have hlen:(O4 f).1=0→(O4 f).2.length=np*Ai f.wide f.high*64:=fun h=>by
  rw [hdr] at h⊢;exact ax h
 have HLEN:=AD hlen
 have HDE:=AD (show Ma f=(O4 f).1 by unfold Ma;rw [if_pos hE])
 have HDL:=AD (show Uq f=Q3 f.wide f.high f.quant (O4 f).2 (Ai f.wide f.high) np by unfold Uq;rw [hpt])
 obtain ⟨D1,hD1⟩:∃x,(O4 f).1=x:=⟨_,rfl⟩
 obtain ⟨D2,hD2⟩:∃x,(O4 f).2=x:=⟨_,rfl⟩
 rw [hD1] at HDE
 rw [hD2] at HDL
 rw [hD1,hD2] at HSC HLEN
 obtain ⟨E,hEE⟩:∃x,Ma f=x:=⟨_,rfl⟩
 obtain ⟨L,hL⟩:∃x,Uq f=x:=⟨_,rfl⟩
 rw [hEE] at HDE⊢
 rw [hL] at HDL⊢
 have hQ:=hF.q
 have hC1:=hF.l1
 have hC2:=hF.l2
 clear e4 e5 hF hL hEE hE hml hdl hsz hdr hlen hD1 hD2 hdx hpt hqk d4 d3 hdl'
 obtain ⟨m,h,p,Q,C1,S1,C2,S2,ev,D⟩:=f
 dsimp only at hQ hC1 hC2 d1 d2 hnp HSZ HSC HLEN HDL⊢
 subst hnp
 have hok:1≤m∧m≤64∧1≤h∧h≤64:=⟨d1.1,d1.2,d2.1,d2.2⟩
 obtain ⟨q1,q2,q3⟩:=Ed hok
 obtain ⟨K,hK⟩:∃K,Ai m h=K:=⟨_,rfl⟩
 obtain ⟨M,hM⟩:∃M,np*K=M:=⟨_,rfl⟩
 rw [hK,hM] at HSZ HSC HLEN
 rw [hK] at HDL
 rw [hK] at q1 q2
 have hn1:M≤192:=by
  have:=Nat.mul_le_mul (show np≤3 by omega) q2
  omega
 have HK:=AD hK
 have HM:=AD hM
 clear q3 hK hM
 show Calls Tryz.prog 21 #[.agg (AF [.val (.int .i64 m), .val (.int .i64 h), .val (.int .i64 np), .ints Q, .ints C1, .val (.slice a1 n1 k1), .ints C2, .val (.slice a2 n2 k2), .val (.int .i64 ev), .val (.slice ad nd kd)]).toArray] _ _
 by_cases h0:D1=0
 ·subst h0
  go_enter Tryz.func21,Tryz.ntmps21
  repeat' (first
   | (refine Al 52 ?_);refine Am AA Tryz.call52 (HC.out _ hS.1) (EW hS ?_);clear hS;intro w hS;go_step|refine X0 ?_|refine X3 ?_|refine Js 1 ?_;clear hS;intro g1 w hS|refine GB 2 ?_;clear hS;intro g2 w hS|refine JE ?_|refine AH ?_;go_step|fail)
  all_goals (try exact AQ)
  refine AR [8] (fun w=>St w0 w [blk g2 [.int .i64 0, .int .i64 0, .slice none 0 0],prt g1 [.val (.int .i64 m), .val (.int .i64 h), .val (.int .i64 np), .ints Q, .ints C1, .val (.slice a1 n1 k1), .ints C2, .val (.slice a2 n2 k2), .val (.int .i64 ev), .val (.slice ad nd kd)]]) AA ?_
  replace hS:=hS.drew
  focus
   refine BX 0 BU (V.fieldAddr LO rfl BK) ?_;go_step
   refine bu 1 [8,9,10,11,12,13] ?_
   refine BX 2 BU (V.fieldAddr LQ rfl BK) ?_;go_step
   refine gQ 3 [8,9,10,11,12,13] ?_
   refine gO 4 [5,8,9,10,11,12,13] ?_
   refine BX 6 BU (V.fieldAddr LP rfl BK) ?_;go_step
   refine gP 7 [8,9,10,11,12,13] ?_
   refine At 5 ?_
   refine AY (f:=53) rfl Tryz.call53 (HSZ.out _) ?_;rintro e w ⟨rfl,hE2⟩;replace hS:=hS.ext hE2;clear hE2;refine ⟨_,rfl,?_⟩
   refine ⟨fun _ _=>hS.sub AV,?_⟩
   refine AL ?_
   go_step
   refine At 8 ?_
   refine AY (f:=20) rfl Tryz.call20 (HSC.out _ hS.1) ?_;rintro e w ⟨ao,co,mb,hmb,rfl,hS2⟩;replace hS:=hS.call1 hS2;clear hS2;have HMB:=AD hmb;clear hmb;refine ⟨_,rfl,?_⟩
   refine ⟨fun h=>absurd (by decide) h,?_⟩
   refine AL ?_
   go_step
   refine Ab 9 ?_
   refine Y2 10 ?_
   refine Y2 11 ?_
   refine Ab 12 ?_
   refine Ab 13 ?_
   refine AE AA ?_ _
  all_goals
   repeat' (first|(refine AH ?_;go_step)|fail)
   obtain rfl:mb=M:=by
    have e1:=HMB.out
    have e2:=HLEN.out rfl
    omega
   have hcc:mb≤co∧co≤maxLen:=by
    obtain ⟨_,a9,c9,z2,z3,z4,_⟩:=hS.sl (a:=ao) AK
    cases z2
    exact ⟨z3,z4⟩
   obtain ⟨hcc1,hcc2⟩:=hcc
   repeat' (first
    | (refine Al 54 ?_);refine Am AA Tryz.call54 (NO _ m h hok np hnp3 Q C1 C2 hQ hC1 hC2 _ _ _ ev K mb HK.out HM.out ao co hcc1 hcc2 D2 HMB.out (hS.sl AK)) ?_;rintro e w ⟨a9,c9,R9,hR9,rfl,hP9⟩;replace hS:=hS.call hP9;clear hP9;simp only [List.cons_append,List.nil_append] at hS;have HR9:=AD hR9;clear hR9;refine AX ?_;go_step|refine X0 ?_|refine X3 ?_|refine Ns ?_;clear hS;intro w hS|refine JE ?_|refine AH ?_;go_step|fail)
   all_goals (try exact AQ)
   refine AM (xs:=[_,_]) rfl (.cons (AB.blk hS rfl (AO (n:=3) rfl) AK rfl) (.cons (AB.tmp rfl) (.nil))) (by simp) rfl ?_
   refine ⟨fun h=>absurd HDE.out h,fun _=>⟨a9,c9,R9,by rw [HR9.out,HDL.out],rfl,?_⟩⟩
   unfold Cc
   exact hS.sub AV
 go_enter Tryz.func21,Tryz.ntmps21
 repeat' (first
  | (refine Al 52 ?_);refine Am AA Tryz.call52 (HC.out _ hS.1) (EW hS ?_);clear hS;intro w hS;go_step|refine X0 ?_|refine X3 ?_|refine Js 1 ?_;clear hS;intro g1 w hS|refine GB 2 ?_;clear hS;intro g2 w hS|refine JE ?_|refine AH ?_;go_step|fail)
 all_goals (try exact AQ)
 refine AR [8] (fun w=>St w0 w [blk g2 [.int .i64 0, .int .i64 0, .slice none 0 0],prt g1 [.val (.int .i64 m), .val (.int .i64 h), .val (.int .i64 np), .ints Q, .ints C1, .val (.slice a1 n1 k1), .ints C2, .val (.slice a2 n2 k2), .val (.int .i64 ev), .val (.slice ad nd kd)]]) AA ?_
 replace hS:=hS.drew
 focus
  refine BX 0 BU (V.fieldAddr LO rfl BK) ?_;go_step
  refine bu 1 [8,9,10,11,12,13] ?_
  refine BX 2 BU (V.fieldAddr LQ rfl BK) ?_;go_step
  refine gQ 3 [8,9,10,11,12,13] ?_
  refine gO 4 [5,8,9,10,11,12,13] ?_
  refine BX 6 BU (V.fieldAddr LP rfl BK) ?_;go_step
  refine gP 7 [8,9,10,11,12,13] ?_
  refine At 5 ?_
  refine AY (f:=53) rfl Tryz.call53 (HSZ.out _) ?_;rintro e w ⟨rfl,hE2⟩;replace hS:=hS.ext hE2;clear hE2;refine ⟨_,rfl,?_⟩
  refine ⟨fun _ _=>hS.sub AV,?_⟩
  refine AL ?_
  go_step
  refine At 8 ?_
  refine AY (f:=20) rfl Tryz.call20 (HSC.out _ hS.1) ?_;rintro e w ⟨ao,co,mb,hmb,rfl,hS2⟩;replace hS:=hS.call1 hS2;clear hS2;have HMB:=AD hmb;clear hmb;refine ⟨_,rfl,?_⟩
  refine ⟨fun h=>absurd (by decide) h,?_⟩
  refine AL ?_
  go_step
  refine Ab 9 ?_
  refine Y2 10 ?_
  refine Y2 11 ?_
  refine Ab 12 ?_
  refine Ab 13 ?_
  refine AE AA ?_ _
 all_goals
  repeat' (first|(refine AH ?_;go_step)|fail)
  repeat' (first
   | refine X0 ?_|refine X3 ?_|refine Zh 27 ?_|refine Ns ?_;clear hS;intro w hS|refine AH ?_;go_step|fail)
  all_goals (try exact AQ)
  refine AM (xs:=[_,_]) rfl (.cons (AB.blk hS rfl (AO (n:=3) rfl) AK rfl) (.cons (AB.tmp rfl) (.nil))) (by simp) rfl ?_
  exact ⟨fun _=>⟨by rw [HDE.out];rfl,hS.1⟩,fun h=>by rw [HDE.out] at h;exact absurd h h0⟩
theorem J0{α β:Type}(f:α→List β)(m:Nat):∀(L:List α),(∀x∈L,(f x).length≤m)→(L.flatMap f).length≤L.length*m
 | [],_=>Nat.zero_le _
 | x::L,h=>by
   have h1:=h x (by simp)
   have h2:=J0 f m L fun y hy=>h y (by simp [hy])
   rw [List.flatMap_cons,List.length_append,List.length_cons,Nat.add_mul]
   omega
theorem bA{C1 S1 C2 S2 l:List Int}{n:Nat}(hl:l.length=n*64):(Dj C1 S1 C2 S2 l n).length≤448*n:=by
 unfold Dj
 split
 ·rename_i h0
  obtain ⟨ht,hb,ha,hw⟩:=Lt h0
  obtain ⟨t1,t2⟩:=I5 ht
  obtain ⟨k1,k2⟩:=I6 hl n 0 (by omega)
  have e:Bv C1 S1 C2 S2 l n=(DT l 0 n).flatMap (Bc (Bw C1 S1) (Bw C2 S2)):=by
   unfold Bv;rw [IX _ _ _ _ hw];rfl
  have h1:(Bv C1 S1 C2 S2 l n).length≤(DT l 0 n).length*28:=by
   rw [e]
   refine J0 _ 28 _ fun x hx=>?_
   obtain ⟨⟨_,_⟩,⟨h3,h4⟩,_⟩:=k1 x hx
   unfold Bc
   rw [List.length_append,As]
   have h5:(wb (if x.2 then Bw C1 S1 else Bw C2 S2) x.1.1).length≤16:=by
    split
    ·exact Oy (Bu t1) _
    exact Oy (Bu t2) _
   omega
  have h2:(DT l 0 n).length*28≤64*n*28:=Nat.mul_le_mul_right _ k2
  have h3:=List.count_le_length (a:=(255:Int)) (l:=GD (bytesOf (Bv C1 S1 C2 S2 l n)))
  rw [Og]
  have h4:(GD (bytesOf (Bv C1 S1 C2 S2 l n))).length=((Bv C1 S1 C2 S2 l n).length+7)/8:=by
   unfold GD;rw [List.length_map,GE]
  omega
 exact Nat.zero_le _
theorem XC:∀(ps:List (List Int))(k:Nat),(Mi ps k).length≤(ps.map List.length).sum+2*ps.length
 | [],_=>Nat.zero_le _
 | p::ps,k=>by
   have ih:=XC ps (k+1)
   have h1:(if k=0 then ([]:List Int) else [255,((208+(k-1)%8:Nat):Int)]).length≤2:=by split<;>simp
   rw [Mi,List.length_append,List.length_append,List.map_cons,List.sum_cons,List.length_cons]
   omega
theorem YO{α:Type}(f g:α→Nat)(m:Nat):∀(L:List α),(∀x∈L,f x≤m*g x)→(L.map f).sum≤m*(L.map g).sum
 | [],_=>Nat.zero_le _
 | x::L,h=>by
   have h1:=h x (by simp)
   have h2:=YO f g m L fun y hy=>h y (by simp [hy])
   rw [List.map_cons,List.map_cons,List.sum_cons,List.sum_cons,Nat.mul_add]
   omega
theorem Ss{C1 S1 C2 S2 l:List Int}{n:Nat}(every:Nat)(hl:l.length=n*64):(Mi (FC C1 S1 C2 S2 l (BN n every)) 0).length≤450*n+2:=by
 refine Nat.le_trans (XC _ _) ?_
 have h1:((FC C1 S1 C2 S2 l (BN n every)).map List.length).sum≤448*n:=by
  unfold FC
  rw [List.map_map]
  refine Nat.le_trans (YO _ (fun x=>x.2-x.1) 448 _ fun x hx=>?_) (by rw [Of];exact Nat.le_refl _)
  obtain ⟨a1,a2⟩:=Fp n every x hx
  exact bA (EN hl a1 a2)
 have h2:(FC C1 S1 C2 S2 l (BN n every)).length≤n+1:=by
  unfold FC;rw [List.length_map];exact Oe n every
 omega
theorem XD:∀(ps:List (List Int))(k:Nat),(∀p∈ps,∀x∈p,0≤x∧x<256)→∀x∈Mi ps k,0≤x∧x<256
 | [],_,_,x,hx=>by cases hx
 | p::ps,k,h,x,hx=>by
   rw [Mi,List.mem_append,List.mem_append] at hx
   rcases hx with hx|hx|hx
   ·split at hx
    ·cases hx
    simp only [List.mem_cons,List.not_mem_nil,or_false] at hx
    rcases hx with rfl|rfl
    ·omega
    omega
   ·exact h p (by simp) x hx
   exact XD ps (k+1) (fun q hq=>h q (by simp [hq])) x hx
theorem bB{C1 S1 C2 S2 l:List Int}{n:Nat}:∀x∈Dj C1 S1 C2 S2 l n,0≤x∧x<256:=by
 unfold Dj
 split
 ·refine YM fun y hy=>?_
  obtain ⟨z,hz,rfl⟩:=List.mem_map.1 hy
  have:=EU _ z hz
  omega
 intro x hx;cases hx
theorem Gf{C1 S1 C2 S2 l:List Int}{n every:Nat}:∀x∈Mi (FC C1 S1 C2 S2 l (BN n every)) 0,0≤x∧x<256:=by
 refine XD _ _ fun p hp=>?_
 obtain ⟨y,_,rfl⟩:=List.mem_map.1 hp
 exact bB
def E9(m h:Int)(np:Nat)(q C1 S1 C2 S2:List Int)(ev:Nat)(D:List Int):A8:=⟨m,h,np,q,C1,S1,C2,S2,ev,D.map Int.toNat⟩
theorem LG(m h:Int)(np:Nat)(q C1 S1 C2 S2:List Int)(ev:Nat)(D:List Int)(hD:∀x∈D,0≤x∧x<256):BV (E9 m h np q C1 S1 C2 S2 ev D)=D:=by
 unfold BV E9
 rw [List.map_map]
 conv=>rhs;rw [←List.map_id D]
 refine List.map_congr_left fun x hx=>?_
 have:=hD x hx
 show ((x.toNat:Nat):Int)=x
 omega
theorem Pg{m h:Int}{np n K:Nat}{q B C1 S1 C2 S2 D:List Int}{ev:Nat}(hok:1≤m∧m≤64∧1≤h∧h≤64)(hnp:np=1∨np=3)(hqk:J8 q=true)(hev:ev≤100)(hK:Ai m h=K)(hn:np*K=n)(hB:B.length=n*64)(hab:A5 B n=true)(he:O8 B n ev C1 S1 C2 S2 D):
 BV (E9 m h np q C1 S1 C2 S2 ev D)=D∧Bo (E9 m h np q C1 S1 C2 S2 ev D)=0∧O4 (E9 m h np q C1 S1 C2 S2 ev D)=(0,B)∧Ma (E9 m h np q C1 S1 C2 S2 ev D)=0∧Uq (E9 m h np q C1 S1 C2 S2 ev D)=Q3 m h q B K np:=by
 obtain ⟨l1,l2,m1,m2,hD⟩:=he
 obtain ⟨q1,q2,q3⟩:=Ed hok
 rw [hK] at q1 q2
 have hn1:n≤192:=by
  have:=Nat.mul_le_mul (show np≤3 by omega) q2
  omega
 have hlt:∀x∈D,0≤x∧x<256:=by rw [hD];exact Gf
 have hDI:=LG m h np q C1 S1 C2 S2 ev D hlt
 have hdl:D.length≤90000:=by rw [hD];exact Nat.le_trans (Ss ev hB) (by omega)
 have hfe:Bo (E9 m h np q C1 S1 C2 S2 ev D)=0:=by
  unfold Bo
  have hd:Hr (E9 m h np q C1 S1 C2 S2 ev D):=by
   unfold Hr E9
   dsimp only
   omega
  rw [if_pos hd,if_pos (show J8 (E9 m h np q C1 S1 C2 S2 ev D).quant=true from hqk),if_pos (show A4 (E9 m h np q C1 S1 C2 S2 ev D).c1 (E9 m h np q C1 S1 C2 S2 ev D).s1=0 from m1.ok),if_pos (show A4 (E9 m h np q C1 S1 C2 S2 ev D).c2 (E9 m h np q C1 S1 C2 S2 ev D).s2=0 from m2.ok),if_pos]
  show (D.map Int.toNat).length≤90000
  rw [List.length_map];exact hdl
 have hso:=Ji hB (show n≤400 by omega) hab m1 m2
 have htb:EE C1 S1 C2 S2=0:=by unfold EE;rw [if_pos m1.ok];exact m2.ok
 have hR:O4 (E9 m h np q C1 S1 C2 S2 ev D)=(0,B):=by
  unfold O4
  rw [hDI]
  show IM C1 S1 C2 S2 D (((np:Int).toNat*Ai m h:Nat):Int) ev=(0,B)
  rw [Int.toNat_natCast,hK,hn,hD]
  exact QU hB hev (by omega) htb hso
 refine ⟨hDI,hfe,hR,?_,?_⟩
 ·unfold Ma;rw [if_pos hfe,hR]
 unfold Uq;rw [hR]
 show Q3 m h q B (Ai m h) (np:Int).toNat=_
 rw [hK,Int.toNat_natCast]
end Go.Proofs.YtohacgmhmbijmaaGreatDoor
namespace Go.Proofs.YtohacgmhmbijmaaGreatDoor
attribute [local irreducible] Region.wanted
open Go.ChangeShapes Go.WideShapes Go.ChangeAt Go.RowKit Go.Deep
set_option linter.unusedVariables false
set_option maxRecDepth 100000
set_option maxHeartbeats 8000000
section
variable{P:Program}{ops:Array Oper}{Q:Exit→Act→World→Prop}{rest:List Oper}{a:Act}{w W:World}{d:Option Tmp}{ty:TypeId}{pos:String}{af:Array Edge}{g:Option (Nat×Bool)}{x y:Operand}{k:IntKind}{t:TypeId}
theorem ST{k':IntKind}{ad:Option Addr}{n c j:Nat}{l:List Int}{e:TypeId}{i:Int}(hv:Sl W 1 (.slice ad n c) n (l.map (Value.int k')))(ht:P.underlying t=some (.slice e))(hs:(P.info? e).map (·.size)=some 1)(hx:a.eval x= .slice ad n c)(hy:a.eval y= .int k i)(hj:Bh i j)(hn:j<n)
 (hw:Region.wanted ⟨d, .indexAddr t x y,ty,pos,af,g⟩ (yielded ops a.tmps)=true)
 (h:∀b o,W.cell? ⟨b,o,none⟩=some (.int k' (AJ l j))→(Oper.mk d (.move (.const (.pointer (some ⟨b,o,none⟩)))) ty pos af g).wp P a w (wpList P ops Q rest) Q):wpList P ops Q (⟨d, .indexAddr t x y,ty,pos,af,g⟩::rest) a w:=
 IK hv ht hs hx hy hj hn hw fun b o hr=>h b o (by
  have hl:l.length=n:=by have:=hv.1;simpa using this
  have:=hr 0 (.int k' (AJ l j)) (by simp [AJ,List.getD,List.getElem?_drop,hl,hn])
  simpa using this)
end
def rdr(W:World)(g:Nat)(l:List Int)(p:Nat):Aq where
 holds w f:=∃(a:Option Addr) (c m:Nat),m=l.length-p∧Sl W 1 (.slice a m c) m ((l.drop p).map (Value.int .u8))∧(blk g [.slice a m c, .bool (decide (l.length<p))]).holds w f
 lt:=fun ⟨_,_,_,_,_,h⟩=>(blk g _).lt h
 loc:=fun ⟨a,c,m,h1,h2,h⟩ hs=>⟨a,c,m,h1,h2,(blk g _).loc h hs⟩
theorem St.rdr_open{W w:World}{rs rs':List Aq}{g p:Nat}{l:List Int}(hS:St W w rs)(hp:AU (Go.Proofs.YtohacgmhmbijmaaGreatDoor.rdr W g l p) rs rs'):∃(a:Option Addr) (c m:Nat),m=l.length-p∧Sl W 1 (.slice a m c) m ((l.drop p).map (Value.int .u8))∧St W w (Go.Proofs.YtohacgmhmbijmaaGreatDoor.blk g [.slice a m c, .bool (decide (l.length<p))]::rs'):=by
 obtain ⟨h1,f,h2,h3,f1,f2,e,⟨a,c,m,k1,k2,k3⟩,h5⟩:=hS.pull hp
 exact ⟨a,c,m,k1,k2,h1,f,h2,h3,f1,f2,e,k3,h5⟩
theorem St.rdr_close{W w:World}{rs':List Aq}{g p:Nat}{l:List Int}{a:Option Addr}{c m:Nat}(h1:m=l.length-p)(h2:Sl W 1 (.slice a m c) m ((l.drop p).map (Value.int .u8)))(hS:St W w (Go.Proofs.YtohacgmhmbijmaaGreatDoor.blk g [.slice a m c, .bool (decide (l.length<p))]::rs')):St W w (Go.Proofs.YtohacgmhmbijmaaGreatDoor.rdr W g l p::rs'):=by
 obtain ⟨h1',f,h2',h3,f1,f2,e,h4,h5⟩:=hS
 exact ⟨h1',f,h2',h3,f1,f2,e,⟨a,c,m,h1,h2,h4⟩,h5⟩
theorem Z0(a0:Option Addr)(n0 c0:Nat)(w:World):(Instr.build 119 #[(0, .slice a0 n0 c0)]).run Tryz.prog w= .ok (.agg #[.slice a0 n0 c0, .bool false]) w:=by kernel_rfl
theorem CD(W w0:World)(rs rs':List Aq)(g p:Nat)(l:List Int)(hS:St W w0 rs)(hp:AU (rdr W g l p) rs rs')(hr:Hid (∀i,i<l.length→0≤AJ l i∧AJ l i<256))(hn:l.length≤1000000000000)(hpn:p≤1000000000000):
 Calls Tryz.prog 66 #[.pointer (some ⟨g,0,none⟩)] w0 fun e w=>e= .returned (.int .i64 (AJ l p))∧St W w (rdr W g l (p+1)::rs'):=by
 obtain ⟨a,c,m,hm,hv,hS⟩:=hS.rdr_open hp
 have hx:=hv
 obtain ⟨hlen,a',c',e1,hmc,hcm,hor⟩:=hx
 cases e1
 by_cases h0:m=0
 ·have hb:(AJ l p=0):=by
   simp only [AJ];rw [List.getD_eq_getElem?_getD,List.getElem?_eq_none (by omega)];rfl
  have HB:=AD hb
  have hd2:decide (l.length<p+1)=true:=decide_eq_true (by omega)
  have HD:=AD hd2
  have hv2:Sl W 1 (.slice a m c) m ((l.drop (p+1)).map (Value.int .u8)):=by
   rw [List.drop_of_length_le (by omega)]
   rw [List.drop_of_length_le (by omega)] at hv
   exact hv
  have Hm:Hid (m=l.length-(p+1)):=AD (by omega)
  clear hb hd2 hor
  go_enter Tryz.func66,Tryz.ntmps66
  repeat' (first
   | refine X0 ?_|refine UR ?_|refine cw ?_|refine bm ?_|refine Sc ?_|refine WG ?_|refine dB ?_|(with_reducible refine Ak _ (.store 4 _ _) ?_);(refine Ad ?_;apply Bg hS 4 _ _ rfl _ _ rfl (AI rfl) _ _;(case hp=>exact AK);(case hy=>exact CC);(case hv=>rfl);(case hc=>exact V3);(case hd=>exact rfl);clear hS;intro w hS)|refine AH ?_;go_step|fail)
  refine A9 rfl (AB.tmp rfl) rfl ?_
  refine ⟨(by rw [HB.out];rfl),St.rdr_close Hm.out hv2 ?_⟩
  rw [HD.out]
  exact hS.sub AV
 have hlp:p<l.length:=by omega
 have hx0:=hr.out p hlp
 have e0:AJ (l.drop p) 0=AJ l p:=by simp only [AJ,List.getD_eq_getElem?_getD,List.getElem?_drop,Nat.add_zero]
 have HE0:=AD e0
 obtain ⟨x,hx⟩:∃x,AJ l p=x:=⟨_,rfl⟩
 rw [hx] at hx0 HE0⊢
 have hv2:Sl W 1 (.slice (cutAt a c 1 1) (m-1) (c-1)) (m-1) ((l.drop (p+1)).map (Value.int .u8)):=by
  have:=hv.cutAt 1 m (by omega) (Nat.le_refl _)
  rw [←List.map_drop,←List.map_take,List.drop_drop] at this
  rw [List.take_of_length_le (by simp;omega)] at this
  exact this
 have HD:Hid (decide (l.length<p)=decide (l.length<p+1)):=AD (by rw [decide_eq_false (by omega),decide_eq_false (by omega)])
 have Hm:Hid (m-1=l.length-(p+1)):=AD (by omega)
 rw [HD.out] at hS
 clear e0 hx hlp hlen
 go_enter Tryz.func66,Tryz.ntmps66
 repeat' (first
  | (refine AP 17 ?_);refine ST hv Tryz.underlying35 U5 rfl rfl Bh.l0 (by omega) AA ?_;intro b17 o17 hc17;rw [HE0.out] at hc17;replace hc17:=hS.1.cell hc17;go_step|(refine AP 18 ?_);refine Ad ?_;refine Gx (o:=⟨some 18,_,_,_,_,_⟩) 5 _ rfl _ rfl (AI rfl) _ hc17 ?_;refine AC ?_;go_step|refine X0 ?_|refine UR ?_|refine cw ?_|refine bm ?_|refine Sc ?_|(with_reducible refine Ak _ (.convert 5 3 _) ?_);(refine Ap AA (V.convI (by rw [Tryz.underlying5];rfl) Tryz.underlying3 rfl (IntWalk.i64_in _ (by omega))) ?_;go_step)|refine ZZ ?_|refine dB ?_|(with_reducible refine Ak _ (.store 35 _ _) ?_);(refine Ad ?_;apply Bg hS 35 _ _ rfl _ _ rfl (AI rfl) _ _;(case hp=>exact AK);(case hy=>exact CC);(case hv=>rfl);(case hc=>exact V3);(case hd=>exact rfl);clear hS;intro w hS)|refine AH ?_;go_step|fail)
 refine A9 rfl (AB.tmp rfl) rfl ?_
 exact ⟨rfl,St.rdr_close Hm.out hv2 (hS.sub AV)⟩
theorem d8(a b:Nat)(ha:a<256)(hb:b<256):bits .or .i64 ((a:Int)*2^8) (b:Int)=((a:Int)*256+(b:Int)):=by
 rw [show (a:Int)*2^8=((a*256:Nat):Int) from by rw [show (2:Int)^8=256 from rfl];omega,bits_or_i64_nat _ _ (by omega) (by omega)]
 have e:a*256|||b=a*256+b:=by
  rw [show a*256=2^8*a by omega]
  exact (Nat.two_pow_add_eq_or_of_lt (i:=8) (by omega) a).symm
 rw [e]
 omega
theorem ag(x y:Int)(hx:0≤x∧x<256)(hy:0≤y∧y<256):bits .or .i64 (x*2^8) y=x*256+y:=by
 obtain ⟨a,rfl⟩:=Int.eq_ofNat_of_zero_le hx.1
 obtain ⟨b,rfl⟩:=Int.eq_ofNat_of_zero_le hy.1
 exact d8 a b (by omega) (by omega)
def rC(l:List Int)(p k:Nat):Int:=AJ l (p+2*k)*256+AJ l (p+2*k+1)
def Iu(l:List Int)(p k:Nat):List Int:=(List.range k).map (rC l p)
def rA(l:List Int)(p:Nat):Nat→Int
 | 0=>0
 | k+1=>rA l p k+rC l p k
def rS(l:List Int)(p j:Nat):List Int:=(List.range j).map fun i=>AJ l (p+i)
theorem ar(l:List Int)(p k:Nat)(h:k<16):(Iu l p k++List.replicate (16-k) 0).set k (rC l p k)=Iu l p (k+1)++List.replicate (16-(k+1)) 0:=by
 obtain ⟨m,hm⟩:∃m,16-k=m+1:=⟨16-k-1,by omega⟩
 have hl:(Iu l p k).length=k:=by simp [Iu]
 rw [hm,show 16-(k+1)=m by omega,List.set_append_right _ _ (by omega),hl,Nat.sub_self,List.replicate_succ,List.set_cons_zero]
 simp [Iu,List.range_succ]
theorem OI(l:List Int)(hr:∀i,i<l.length→0≤AJ l i∧AJ l i<256)(i:Nat):0≤AJ l i∧AJ l i<256:=by
 by_cases h:i<l.length
 ·exact hr i h
 have:AJ l i=0:=by simp only [AJ];rw [List.getD_eq_getElem?_getD,List.getElem?_eq_none (by omega)];rfl
 omega
theorem cF(l:List Int)(hr:∀i,i<l.length→0≤AJ l i∧AJ l i<256)(p k:Nat):0≤rC l p k∧rC l p k<65536:=by
 have h1:=OI l hr (p+2*k)
 have h2:=OI l hr (p+2*k+1)
 unfold rC
 omega
theorem QN(l:List Int)(hr:∀i,i<l.length→0≤AJ l i∧AJ l i<256)(p:Nat):∀k,0≤rA l p k∧rA l p k≤65536*(k:Int)
 | 0=>by simp [rA]
 | k+1=>by
   have h1:=QN l hr p k
   have h2:=cF l hr p k
   unfold rA
   omega
theorem NU(W w0:World)(rs rs':List Aq)(g p:Nat)(l:List Int)(hS:St W w0 rs)(hp:AU (rdr W g l p) rs rs')(hr:Hid (∀i,i<l.length→0≤AJ l i∧AJ l i<256))(hn:l.length≤100000)(hpn:p≤10000000):
 Calls Tryz.prog 68 #[.pointer (some ⟨g,0,none⟩)] w0 fun e w=>∃(j:Nat) (sa:Option Addr) (sc:Nat),e= .returned (tv (Iu l p 16) (.slice sa j sc))∧(j:Int)≤rA l p 16∧(p+32+j≤l.length→(j:Int)=rA l p 16)∧St W w (own 3 1 sa j sc ((rS l (p+32) j).map (Value.int .i64))::rdr W g l (p+32+j)::rs'):=by
 replace hS:=hS.pull hp
 have hA16:=QN l hr.out p 16
 obtain ⟨C,hC⟩:∃x,Iu l p 16=x:=⟨_,rfl⟩
 obtain ⟨A,hAe⟩:∃x,rA l p 16=x:=⟨_,rfl⟩
 have hLen:Ac C 16:=AD (by rw [←hC];simp [Iu])
 have HC16:=AD hC
 have HA16:=AD hAe
 rw [hC,hAe]
 rw [hAe] at hA16
 clear hC hAe
 obtain ⟨n,rfl⟩:=Int.eq_ofNat_of_zero_le hA16.1
 go_enter Tryz.func68,Tryz.ntmps68
 repeat' (first
  | refine X0 ?_|refine RC 2 ?_;clear hS;intro g2 w hS|refine AH ?_;go_step|fail)
 go_loopg [3,5] 16 (fun gk av kv w=>∃k:Nat,gk+k=16∧kv= .int .i64 k∧av= .int .i64 (rA l p k)∧St W w (prt g2 [.ints (Iu l p k++List.replicate (16-k) 0), .val (.slice none 0 0)]::rdr W g l (p+2*k)::rs'))
 case atStart=>exact ⟨0,rfl,rfl,rfl,hS⟩
 case round=>
  clear hS
  obtain ⟨k,hk,rfl,rfl,hS⟩:=hrel
  by_cases hlt:k<16
  ·have hx:=OI l hr.out (p+2*k)
   have hy:=OI l hr.out (p+2*k+1)
   have HO:=AD (ag (AJ l (p+2*k)) (AJ l (p+2*k+1)) hx hy)
   have hA:=QN l hr.out p k
   have HA2:=AD (show rA l p (k+1)=rA l p k+rC l p k from rfl)
   have hC:=cF l hr.out p k
   have HC:=AD (show rC l p k=AJ l (p+2*k)*256+AJ l (p+2*k+1) from rfl)
   have HS:=AD (ar l p k hlt)
   have hLen2:Ac (Iu l p k++List.replicate (16-k) 0) 16:=AD (by simp [Iu];omega)
   obtain ⟨x,hx2⟩:∃x,AJ l (p+2*k)=x:=⟨_,rfl⟩
   obtain ⟨y,hy2⟩:∃x,AJ l (p+2*k+1)=x:=⟨_,rfl⟩
   obtain ⟨R,hR⟩:∃x,Iu l p k++List.replicate (16-k) 0=x:=⟨_,rfl⟩
   obtain ⟨A,hAe⟩:∃x,rA l p k=x:=⟨_,rfl⟩
   obtain ⟨z,hz⟩:∃x,rC l p k=x:=⟨_,rfl⟩
   have HX:=AD hx2
   have HY:=AD hy2
   have hZ:AJ (R.set k z) k=z:=Lc _ _ _ (by rw [←hR];simp [Iu];omega)
   rw [hx2,hy2] at HO HC
   rw [hx2] at hx
   rw [hy2] at hy
   rw [hR] at HS hS hLen2
   rw [hAe] at hA HA2
   rw [hz] at HA2 HC HS hC
   rw [hAe]
   have HOz:=AD (HO.out.trans HC.out.symm)
   clear hx2 hy2 hR hAe hz
   repeat' (first
    | (refine AP 10 ?_);refine AG (f:=66) Tryz.call66 AA ?_;refine ⟨_,(CD _ _ _ _ g (p+2*k) l hS AK hr (by omega) (by omega)),?_⟩;rintro e w ⟨rfl,hS2⟩;rw [HX.out];clear hS;rename _=>hS;refine AX ?_;go_step|(refine AP 13 ?_);refine AG (f:=66) Tryz.call66 AA ?_;refine ⟨_,(CD _ _ _ _ g (p+2*k+1) l hS AK hr (by omega) (by omega)),?_⟩;rintro e w ⟨rfl,hS2⟩;rw [HY.out];clear hS;rename _=>hS;refine AX ?_;go_step|(refine AP 14 ?_);(refine Ag (.int _ (z)) (V.as (V.or rfl rfl) (by exact HOz.out)) (by kernel_rfl) ?_;go_step)|refine X0 ?_|refine X2 ?_|refine ZT ?_|refine dT ?_|refine Zj 16 ?_|refine Zj 20 ?_|refine X7 ?_|refine cr ?_;clear hS;intro w hS|(with_reducible refine Ak _ (.load 3 _) ?_);(refine Ad ?_;apply SR hS 3 _ rfl _ _ rfl (AI rfl) _;(case hp=>exact AK);(case hi=>(repeat (first|(apply Q7.head;(case hn=>exact DW);(case h=>omega))|(apply Q7.skipI;(case hn=>exact DW);(case h=>omega);(case ho=>rfl))|apply Q7.skipV)));(case hz=>with_reducible assumption);refine AC ?_;go_step)|refine AH ?_;go_step|fail)
   rw [HS.out] at hS
   go_roundg (gk-1)
   case measure=>omega
   case rel=>exact ⟨k+1,by omega,by go_num,by rw [HA2.out],hS⟩
  obtain rfl:k=16:=by omega
  rw [show Iu l p 16++List.replicate (16-16) 0=Iu l p 16 by simp] at hS
  rw [HC16.out] at hS
  rw [HA16.out]
  repeat' (first
   | refine X1 ?_|refine X2 ?_|refine AH ?_;go_step|fail)
  replace hS:=hS.nilk 3 1 .i64
  go_loopg [25] n (fun gk kv w=>∃(j:Nat) (sa:Option Addr) (sc:Nat),gk+j=n∧kv= .int .i64 j∧St W w (own 3 1 sa j sc ((rS l (p+32) j).map (Value.int .i64))::prt g2 [.ints C, .val (.slice sa j sc)]::rdr W g l (p+32+j)::rs'))
  case atStart=>exact ⟨0,none,0,by omega,rfl,hS⟩
  case round=>
   clear hS
   obtain ⟨j,sa,sc,hj,rfl,hS⟩:=hrel
   by_cases hlt2:j<n
   ·obtain ⟨ra,rc,rm,hrm,hrv,hS⟩:=hS.rdr_open AK
    by_cases hsh:l.length<p+32+j
    ·have HSh:=AD (decide_eq_true hsh)
     have HSh2:=AD hsh
     rw [HSh.out] at hS
     repeat' (first
      | refine X1 ?_|refine X2 ?_|refine UR ?_|refine WG ?_|refine ZY ?_|refine KZ ?_|refine RE ?_;clear hS;intro w hS|refine AH ?_;go_step|fail)
     have hS3:=St.rdr_close (p:=p+32+j) (rs':=own 3 1 sa j sc ((rS l (p+32) j).map (Value.int .i64))::prt g2 [.ints C, .val (.slice sa j sc)]::rs') hrm hrv (by rw [HSh.out];exact hS.sub AV)
     refine A9 rfl (AB.prt hS rfl (AO (n:=17) rfl) AK (by (repeat (first|exact Bi.nil|(apply Bi.ints;(case hn=>exact DW);(case h=>omega);(case hm=>rfl))|apply Bi.val)))) rfl ?_
     exact ⟨j,sa,sc,rfl,by omega,fun h=>absurd h (by omega),hS3.sub AV⟩
    have HSh:=AD (decide_eq_false hsh)
    have HSn:=AD (show rS l (p+32) (j+1)=rS l (p+32) j++[AJ l (p+32+j)] by simp [rS,List.range_succ])
    rw [HSh.out] at hS
    repeat' (first
     | refine X1 ?_|refine X2 ?_|refine UR ?_|refine WG ?_|refine ZY ?_|refine AH ?_;go_step|fail)
    have hS3:=St.rdr_close (p:=p+32+j) hrm hrv (by rw [HSh.out];exact hS)
    clear hS
    have hS:=hS3
    clear hS3 hrv hrm HSh hsh
    refine AR [5,7] (fun w=>St W w [prt g2 [.ints C, .val (.slice sa j sc)]]) AA ?_
    replace hS:=hS.drew
    focus
     refine BX 0 BU (V.fieldAddr LN rfl BK) ?_;go_step
     apply Cr 1 Ar AA AA AA Cp [5,6,7] AA (hS.sub AV)
     case hfr=>intro w hS;((refine Ad ?_;apply EP hS 30 _ rfl _ _ rfl (AI rfl) _;(case hp=>exact AK);(case hi=>(repeat (first|exact Jp.head|(apply Jp.skipI;(case hn=>exact DW);(case h=>omega);(case ho=>rfl))|apply Jp.skipV)));refine AC ?_;go_step));refine wpList_nil ?_;exact ⟨rfl,rfl⟩
     case hd=>rfl
     refine Ab 2 ?_
     refine At 3 ?_
     refine AY (f:=66) rfl Tryz.call66 (CD _ _ _ _ g (p+32+j) l hS AK hr (by omega) (by omega)) ?_;rintro e w ⟨rfl,hS2⟩;clear hS;rename _=>hS;refine ⟨_,rfl,?_⟩
     refine ⟨fun _ _=>hS.sub AV,?_⟩
     refine AL ?_
     go_step
     refine At 4 ?_
     (refine AT (o:=⟨some 35,_,_,_,_,_⟩) hS 30 1 _ rfl 3 1 8 Mb _ _ (by (repeat (first|exact AW.nil|(apply AW.agg;(rfl);(rfl))|(apply AW.one;exact CC;(rfl);(rfl))))) (by rfl) (by decide) (by decide) ?_;clear hS;intro g35 w hS)
     refine ⟨fun _ _=>hS.sub AV,?_⟩
     refine AL ?_
     go_step
     refine At 5 ?_
     (refine A7 (o:=⟨some 36,_,_,_,_,_⟩) hS _ _ 30 rfl 3 1 8 Mb _ _ _ _ rfl AK _ rfl _ _ (by (first|exact hS.slBlk AK (by rfl) (by decide)|exact hS.sl AK|with_reducible assumption|exact Sl.ext (by with_reducible assumption) hS.1|exact Sl.nil _ _|exact Sl.ext (by assumption) hS.1|assumption)) (by (first|exact Cd rfl|exact CE _ _|(intro u hu;cases hu))) (by unfold maxLen;omega) (by omega) ?_;clear hS;intro ad36 c36 w hS;(first|simp only [DX] at hS|simp only [DY] at hS|simp only [DZ] at hS|simp only [Da] at hS|simp only [Db] at hS|skip))
     refine ⟨fun h=>absurd (by decide) h,?_⟩
     refine AL ?_
     go_step
     refine BX 6 BU (V.fieldAddr LN rfl BK) ?_;go_step
     refine At 7 ?_
     refine IJ hS 30 _ _ rfl _ _ rfl (AI rfl) _ _ AK _ CC (by rfl) (.skipI hLen (Nat.le_refl _) rfl .head) rfl ?_;clear hS;intro w hS
     refine ⟨fun h=>absurd (by decide) h,?_⟩
     refine AE AA ?_ _
    repeat' (first
     | refine X1 ?_|refine X7 ?_|refine AH ?_;go_step|fail)
    go_roundg (gk-1)
    case measure=>omega
    case rel=>exact ⟨j+1,ad36,c36,by omega,by go_num,by rw [HSn.out,show p+32+(j+1)=p+32+j+1 from rfl];exact hS.sub AV⟩
   obtain rfl:j=n:=by omega
   repeat' (first
    | refine X2 ?_|refine KZ ?_|refine RE ?_;clear hS;intro w hS|refine AH ?_;go_step|fail)
   refine A9 rfl (AB.prt hS rfl (AO (n:=17) rfl) AK (by (repeat (first|exact Bi.nil|(apply Bi.ints;(case hn=>exact DW);(case h=>omega);(case hm=>rfl))|apply Bi.val)))) rfl ?_
   exact ⟨j,sa,sc,rfl,by omega,fun _=>rfl,hS.sub AV⟩
structure DM(p:Prop):Prop where
 out:p
def f0:A8:=⟨0,0,0,List.replicate 64 0,List.replicate 16 0,[],List.replicate 16 0,[],0,[]⟩
def fz:Value:=fv f0 (.slice none 0 0) (.slice none 0 0) (.slice none 0 0)
theorem Wa(w:World):(Instr.build 37 #[]).run Tryz.prog w= .ok fz w:=by kernel_rfl
theorem Wb(m0 m1 m2 m5:Int)(w:World):(Instr.build 37 #[(0, .int .i64 m0),(1, .int .i64 m1),(2, .int .i64 m2),(5, .int .i64 m5)]).run Tryz.prog w= .ok (fv ⟨m0,m1,m2,List.replicate 64 0,List.replicate 16 0,[],List.replicate 16 0,[],m5,[]⟩ (.slice none 0 0) (.slice none 0 0) (.slice none 0 0)) w:=by kernel_rfl
def rQ(l:List Int)(k:Nat):List Int:=(List.range k).map fun i=>AJ l (6+i)
theorem eE(l:List Int)(k:Nat)(h:k<64):(rQ l k++List.replicate (64-k) 0).set k (AJ l (6+k))=rQ l (k+1)++List.replicate (64-(k+1)) 0:=by
 obtain ⟨m,hm⟩:∃m,64-k=m+1:=⟨64-k-1,by omega⟩
 have hl:(rQ l k).length=k:=by simp [rQ]
 rw [hm,show 64-(k+1)=m by omega,List.set_append_right _ _ (by omega),hl,Nat.sub_self,List.replicate_succ,List.set_cons_zero]
 simp [rQ,List.range_succ]
abbrev gp(W H p:Int)(Q C1:List Int)(v1:Value)(C2:List Int)(v2:Value)(ev:Int)(vd:Value):List Ae:=[.val (.int .i64 W), .val (.int .i64 H), .val (.int .i64 p), .ints Q, .ints C1, .val v1, .ints C2, .val v2, .val (.int .i64 ev), .val vd]
theorem VR{W H p ev:Int}{Q Q' C1 C2:List Int}{v1 v2 vd:Value}(hQ:Ac Q 64)(hQ':Ac Q' 64):JK [.ints Q'] (gp W H p Q C1 v1 C2 v2 ev vd) 3 (gp W H p Q' C1 v1 C2 v2 ev vd):=
 .skipV (.skipV (.skipV (.head (B:=[.ints Q]) (by simp [AF,Ae.cells,hQ.out,hQ'.out]))))
theorem VQ{W H p ev:Int}{Q C1 C C2:List Int}{v1 v v2 vd:Value}(hQ:Ac Q 64)(hC1:Ac C1 16)(hC:Ac C 16):JK [.ints C, .val v] (gp W H p Q C1 v1 C2 v2 ev vd) 67 (gp W H p Q C v C2 v2 ev vd):=
 .skipV (.skipV (.skipV (.skipI hQ (by decide) rfl (.head (B:=[.ints C1, .val v1]) (by simp [AF,Ae.cells,hC1.out,hC.out])))))
theorem Xo{W H p ev:Int}{Q C1 C C2:List Int}{v1 v v2 vd:Value}(hQ:Ac Q 64)(hC1:Ac C1 16)(hC2:Ac C2 16)(hC:Ac C 16):JK [.ints C, .val v] (gp W H p Q C1 v1 C2 v2 ev vd) 84 (gp W H p Q C1 v1 C v ev vd):=
 .skipV (.skipV (.skipV (.skipI hQ (by decide) rfl (.skipI hC1 (by decide) rfl (.skipV (.head (B:=[.ints C2, .val v2]) (by simp [AF,Ae.cells,hC2.out,hC.out])))))))
def OQ(l:List Int):Nat:=(rA l 70 16).toNat
def Td(l:List Int):Nat:=(rA l (102+OQ l) 16).toNat
def VP(l:List Int):Nat:=102+OQ l+32+Td l
def EB(l:List Int):A8:=⟨AJ l 2,AJ l 3,AJ l 4,CI (rQ l 64),Iu l 70 16,rS l 102 (OQ l),Iu l (102+OQ l) 16,rS l (102+OQ l+32) (Td l),AJ l 5,(l.drop (VP l)).map Int.toNat⟩
def C8(l:List Int):Int:=if 91000<l.length then 2 else if l.length<VP l then 3 else if Bo (EB l)=0∧BF (EB l)=l then 0 else 4
theorem PQ{C:List Int}(h:∀k,k<16→0≤AJ C k∧AJ C k≤256):∀k,k≤16→∀x∈cb C k,0≤x∧x<256
 | 0,_,x,hx=>by simp [cb] at hx
 | k+1,hk,x,hx=>by
   rw [cb,List.mem_append] at hx
   rcases hx with hx|hx
   ·exact PQ h k (by omega) x hx
   have:=h k (by omega)
   simp only [List.mem_cons,List.not_mem_nil,or_false] at hx
   rcases hx with rfl|rfl<;>omega
theorem L7{C S:List Int}(h:A4 C S=0):∀x∈L6 C S,0≤x∧x<256:=fun x hx=>by
 have k:=B8 h
 rw [L6,List.mem_append] at hx
 rcases hx with hx|hx
 ·exact PQ k.1 16 (Nat.le_refl _) x hx
 exact k.2.2.2.1 x hx
theorem J7{f:A8}(h:Bo f=0)(hQ:f.quant.length=64)(hd:∀x∈f.data,x<256):∀x∈BF f,0≤x∧x<256:=fun x hx=>by
 obtain ⟨⟨h1,h2,h3,h4⟩,hq,ht1,ht2,_⟩:=FK h
 simp only [BF,G9,Vf,List.mem_append,List.mem_cons,List.not_mem_nil,or_false] at hx
 rcases hx with ((((rfl|rfl)|(rfl|rfl|rfl|rfl))|hx)|(hx|hx))|hx
 ·omega
 ·omega
 ·omega
 ·omega
 ·omega
 ·omega
 ·obtain ⟨i,hi,rfl⟩:=List.getElem_of_mem hx
  have hi2:i<64:=by rw [Bx] at hi;exact hi
  have:=Yo hQ hq i hi2
  have e:AJ (EQ f.quant) i=(EQ f.quant)[i]'hi:=by unfold AJ;rw [List.getD_eq_getElem?_getD,List.getElem?_eq_getElem hi];rfl
  omega
 ·exact L7 ht1 x hx
 ·exact L7 ht2 x hx
 obtain ⟨y,hy,rfl⟩:=List.mem_map.1 hx
 have:=hd y hy
 omega
theorem My{l:List Int}(h:∀x∈l,0≤x∧x<256)(i:Nat)(hi:i<l.length):0≤AJ l i∧AJ l i<256:=Hz h i hi
theorem Ub{l:List Int}(h:∀i,i<l.length→0≤AJ l i∧AJ l i<256)(x:Int)(hx:x∈l):0≤x∧x<256:=by
 obtain ⟨i,hi,rfl⟩:=List.getElem_of_mem hx
 have:=h i hi
 have e:AJ l i=l[i]:=by simp [AJ,List.getD,hi]
 omega
theorem SG{l:List Int}(h:∀x∈l,0≤x∧x<256):((l.map Int.toNat).map fun (x:Nat)=>(x:Int))=l:=by
 rw [List.map_map]
 conv=>rhs;rw [←List.map_id l]
 refine List.map_congr_left fun x hx=>?_
 have:=h x hx
 simp only [Function.comp,id]
 omega
theorem bz(C:List Int):∀k,(cb C k).length=2*k
 | 0=>rfl
 | k+1=>by rw [cb,List.length_append,bz C k];simp;omega
theorem Xh(f:A8):(BF f).length=134+f.s1.length+f.s2.length+f.data.length:=by
 simp only [BF,G9,Vf,L6,BV,List.length_append,List.length_map,Bx,bz,List.length_cons,List.length_nil]
 omega
theorem Xj{l:List Int}{j1 j2:Nat}(h1:(j1:Int)≤rA l 70 16)(k1:102+j1≤l.length→(j1:Int)=rA l 70 16)(h2:(j2:Int)≤rA l (102+j1) 16)(hs:l.length<102+j1+32+j2):l.length<VP l:=by
 by_cases h:l.length<VP l
 ·exact h
 exfalso
 have e:VP l=102+OQ l+32+Td l:=rfl
 have e1:OQ l=(rA l 70 16).toNat:=rfl
 have hj:(j1:Int)=rA l 70 16:=k1 (by omega)
 have e3:OQ l=j1:=by omega
 have e2:Td l=(rA l (102+j1) 16).toNat:=by rw [←e3];rfl
 omega
theorem ah{l:List Int}{j1 j2:Nat}(k1:102+j1≤l.length→(j1:Int)=rA l 70 16)(k2:102+j1+32+j2≤l.length→(j2:Int)=rA l (102+j1) 16)(hs:102+j1+32+j2≤l.length):OQ l=j1∧Td l=j2∧VP l=102+j1+32+j2:=by
 have e1:OQ l=(rA l 70 16).toNat:=rfl
 have hj:=k1 (by omega)
 have hj2:=k2 hs
 have e3:OQ l=j1:=by omega
 have e2:Td l=(rA l (102+j1) 16).toNat:=by rw [←e3];rfl
 have e4:Td l=j2:=by omega
 refine ⟨e3,e4,?_⟩
 rw [VP,e3,e4]
theorem K8{w:World}{ad:Option Addr}{n c:Nat}{xs:List Int}(hv:Sl w 1 (.slice ad n c) n (xs.map (Value.int .u8))):Lib.BytesIn w ad n xs:=fun hn=>by
 obtain ⟨hl,a1,c1,e1,hnc,hcm,hor⟩:=hv
 cases e1
 have hln:xs.length=n:=by simpa using hl
 rcases hor with h0|⟨b,off,h,hc⟩
 ·omega
 refine ⟨b,off,h,fun i hi=>?_⟩
 rw [hc i (by omega)]
 simp [List.getD,hln,hi]
theorem RK{xs ys:List Int}(hx:∀i,i<xs.length→0≤AJ xs i∧AJ xs i<256)(hy:∀i,i<ys.length→0≤AJ ys i∧AJ ys i<256):(Lib.bytesOf xs==Lib.bytesOf ys)=decide (xs=ys):=by
 have key:Lib.bytesOf xs=Lib.bytesOf ys↔xs=ys:=by
  constructor
  ·intro h
   have hl:xs.length=ys.length:=by have:=congrArg List.length h;simpa [Lib.bytesOf] using this
   refine Eb hl fun i hi=>?_
   have h1:=hx i hi
   have h2:=hy i (by omega)
   have h3:(Lib.bytesOf xs)[i]? =(Lib.bytesOf ys)[i]? :=by rw [h]
   have hi2:i<ys.length:=by omega
   simp only [Lib.bytesOf,List.getElem?_map,List.getElem?_eq_getElem hi,List.getElem?_eq_getElem hi2,Option.map_some,Option.some.injEq] at h3
   have e1:AJ xs i=xs[i]:=by simp [AJ,List.getD,hi]
   have e2:AJ ys i=ys[i]:=by simp [AJ,List.getD,hi2]
   rw [←e1,←e2] at h3
   have h4:=congrArg UInt8.toNat h3
   simp only [UInt8.toNat_ofNat'] at h4
   omega
  rintro rfl;rfl
 by_cases h:xs=ys
 ·rw [decide_eq_true h,beq_iff_eq];exact key.2 h
 rw [decide_eq_false h,beq_eq_false_iff_ne];exact fun e=>h (key.1 e)
theorem LJ(w:World)(p1 p2:Option Addr)(n c m d:Nat)(xs ys:List Int)(h1:Sl w 1 (.slice p1 n c) n (xs.map (Value.int .u8)))(h2:Sl w 1 (.slice p2 m d) m (ys.map (Value.int .u8)))(hx:∀i,i<xs.length→0≤AJ xs i∧AJ xs i<256)(hy:∀i,i<ys.length→0≤AJ ys i∧AJ ys i<256):
 Calls Tryz.prog 70 #[.slice p1 n c, .slice p2 m d] w fun e w'=>e= .returned (.bool (decide (xs=ys)))∧w=w':=
 (Tryz.bytes_Equal_all p1 p2 n c m d xs ys w (by have:=h1.1;simpa using this) (by have:=h2.1;simpa using this) (K8 h1) (K8 h2)).mono fun e w' ⟨k1,k2⟩=>⟨by rw [k1,RK hx hy],k2.symm⟩
theorem RY(w0:World)(ad:Option Addr)(n c:Nat)(xs:List Int)(hv:Sl w0 1 (.slice ad n c) n (xs.map (Value.int .u8)))(hn:n≤140737488355328):
 Calls Tryz.prog 69 #[.slice ad n c] w0 fun e w=>∃(a':Option Addr) (c':Nat),e= .returned (.slice a' n c')∧St w0 w [own 5 1 a' n c' (xs.map (Value.int .u8))]:=by
 obtain ⟨hl,a1,c1,e1,hnc,hcm,hor⟩:=hv
 cases e1
 have hln:xs.length=n:=by simpa using hl
 cases ad with
 | none=>
   rcases hor with h0|⟨b,off,h,_⟩
   ·have h0':n=0:=h0
    subst h0'
    refine (Tryz.bytes_Clone_nil 0 c w0).mono fun e w' ⟨k1,k2⟩=>⟨none,0,k1,?_⟩
    subst k2
    rw [List.length_eq_zero_iff.1 hln]
    exact (St.start w').nil 5 1
   cases h
 | some a=>
   refine (Tryz.bytes_Clone_at a n c xs w0 hln hn (fun i hi=>?_)).mono fun e w' ⟨v',k1,k2,k3,k4⟩=>?_
   ·rcases hor with h0|⟨b,off,h,hc⟩
    ·omega
    cases h
    rw [Addr.add_mid,hc i (by omega)]
    simp [List.getD,hln,hi]
   rcases k2.2 with ⟨h1,h2⟩|⟨g,cap,cur,h1,h2,h3,h4,h5,h6,h7⟩
   ·exact absurd h1 k3
   subst h1
   refine ⟨some ⟨g,0,none⟩,cap,k1,k4,[g],by simp,fun b hb=>by rw [List.mem_singleton] at hb;omega,[g],[],rfl,⟨rfl,k2.1, .inr ⟨g,cap,cur,rfl,Nat.zero_le _,h3,h4,h5,h6,h7⟩⟩,rfl⟩
theorem cE(w0:World)(a:Option Addr)(n c:Nat)(l:List Int)(hv:Sl w0 1 (.slice a n c) n (l.map (Value.int .u8)))(hn:91000<n)(hn2:n≤9223372036854775807):
 Calls Tryz.prog 40 #[.slice a n c] w0 fun e w=>e= .returned (.tuple #[fz, .int .i64 2])∧Af w0 w:=by
 have hS:=St.start w0
 go_enter Tryz.func40,Tryz.ntmps40
 repeat' (first
  | refine Zi 12 ?_|refine X0 ?_|refine bm ?_|refine G6 ?_|refine RD 2 ?_;clear hS;intro g2 w hS|refine Qz ?_;clear hS;intro w hS|refine AH ?_;go_step|fail)
 refine AM (xs:=[_,_]) rfl (.cons (AB.prt hS rfl (AO (n:=103) rfl) AK (by (repeat (first|exact Bi.nil|(apply Bi.ints;(case hn=>exact DW);(case h=>omega);(case hm=>rfl))|apply Bi.val)))) (.cons (AB.tmp rfl) (.nil))) (by simp) rfl ?_
 exact ⟨rfl,hS.1⟩
theorem R0(w0:World)(a:Option Addr)(n c:Nat)(l:List Int)(hv:Sl w0 1 (.slice a n c) n (l.map (Value.int .u8)))(hr:Hid (∀i,i<l.length→0≤AJ l i∧AJ l i<256))(hn:n≤91000):
 Calls Tryz.prog 40 #[.slice a n c] w0 fun e w=>(C8 l≠0→e= .returned (.tuple #[fz, .int .i64 (C8 l)])∧Af w0 w)∧(C8 l=0→∃(a1 a2 ad:Option Addr) (c1 c2 cd:Nat),e= .returned (.tuple #[fv (EB l) (.slice a1 (OQ l) c1) (.slice a2 (Td l) c2) (.slice ad (l.length-VP l) cd), .int .i64 0])∧
  St w0 w [own 3 1 a1 (OQ l) c1 ((EB l).s1.map (Value.int .i64)),own 3 1 a2 (Td l) c2 ((EB l).s2.map (Value.int .i64)),own 5 1 ad (l.length-VP l) cd ((BV (EB l)).map (Value.int .u8))]):=by
 have hS:=St.start w0
 have hln:l.length=n:=by have:=hv.1;simpa using this
 go_enter Tryz.func40,Tryz.ntmps40
 repeat' (first
  | refine X0 ?_|refine bm ?_|refine G6 ?_|(refine AP 14 ?_);(refine Ap AA (V.build (vs:=[(0,_)]) rfl (Z0 _ _ _)) ?_;go_step)|refine RD 2 ?_;clear hS;intro g2 w hS|(refine AP 15 ?_);(refine Ad ?_;apply CL (o:=⟨some 15,_,_,_,_,_⟩) hS 119 _ rfl _ rfl;clear hS;intro g15 w hS;refine AC ?_;go_step)|refine AH ?_;go_step|fail)
 replace hS:=St.rdr_close (g:=g15) (p:=0) (l:=l) (W:=w0) (by rw [hln];rfl) hv hS
 repeat' (first
  | (refine AP 17 ?_);refine AG (f:=66) Tryz.call66 AA ?_;refine ⟨_,(CD _ _ _ _ g15 0 l hS AK hr (by omega) (by omega)),?_⟩;rintro e w ⟨rfl,hS2⟩;clear hS;rename _=>hS;refine AX ?_;go_step|(refine AP 19 ?_);refine AG (f:=66) Tryz.call66 AA ?_;refine ⟨_,(CD _ _ _ _ g15 1 l hS AK hr (by omega) (by omega)),?_⟩;rintro e w ⟨rfl,hS2⟩;clear hS;rename _=>hS;refine AX ?_;go_step|(refine AP 21 ?_);refine AG (f:=66) Tryz.call66 AA ?_;refine ⟨_,(CD _ _ _ _ g15 2 l hS AK hr (by omega) (by omega)),?_⟩;rintro e w ⟨rfl,hS2⟩;clear hS;rename _=>hS;refine AX ?_;go_step|(refine AP 23 ?_);refine AG (f:=66) Tryz.call66 AA ?_;refine ⟨_,(CD _ _ _ _ g15 3 l hS AK hr (by omega) (by omega)),?_⟩;rintro e w ⟨rfl,hS2⟩;clear hS;rename _=>hS;refine AX ?_;go_step|(refine AP 25 ?_);refine AG (f:=66) Tryz.call66 AA ?_;refine ⟨_,(CD _ _ _ _ g15 4 l hS AK hr (by omega) (by omega)),?_⟩;rintro e w ⟨rfl,hS2⟩;clear hS;rename _=>hS;refine AX ?_;go_step|(refine AP 27 ?_);refine AG (f:=66) Tryz.call66 AA ?_;refine ⟨_,(CD _ _ _ _ g15 5 l hS AK hr (by omega) (by omega)),?_⟩;rintro e w ⟨rfl,hS2⟩;clear hS;rename _=>hS;refine AX ?_;go_step|(refine AP 28 ?_);refine Ag _ (V.build (vs:=[(0, .int .i64 (AJ l 2)),(1, .int .i64 (AJ l 3)),(2, .int .i64 (AJ l 4)),(5, .int .i64 (AJ l 5))]) rfl (Wb _ _ _ _)) AA ?_;go_step|refine X1 ?_|refine RD 5 ?_;clear hS;intro g5 w hS|refine Qz ?_;clear hS;intro w hS|refine AH ?_;go_step|fail)
 dsimp only [Hu] at hS
 have hr1:=QN l hr.out 70 16
 go_loopg [29] 64 (fun gk kv w=>∃k:Nat,gk+k=64∧kv= .int .i64 k∧St w0 w [prt g5 [.val (.int .i64 (AJ l 2)), .val (.int .i64 (AJ l 3)), .val (.int .i64 (AJ l 4)), .ints (rQ l k++List.replicate (64-k) 0), .ints (List.replicate 16 0), .val (.slice none 0 0), .ints (List.replicate 16 0), .val (.slice none 0 0), .val (.int .i64 (AJ l 5)), .val (.slice none 0 0)],rdr w0 g15 l (6+k),
  prt g2 [.val (.int .i64 0), .val (.int .i64 0), .val (.int .i64 0), .ints (List.replicate 64 0), .ints (List.replicate 16 0), .val (.slice none 0 0), .ints (List.replicate 16 0), .val (.slice none 0 0), .val (.int .i64 0), .val (.slice none 0 0)]])
 case atStart=>exact ⟨0,rfl,rfl,by rw [show rQ l 0++List.replicate (64-0) 0=List.replicate 64 0 from rfl];exact hS.sub AV⟩
 case round=>
  clear hS
  obtain ⟨k,hk,rfl,hS⟩:=hrel
  by_cases hlt:k<64
  ·have HS:=AD (eE l k hlt)
   have hLen2:Ac (rQ l k++List.replicate (64-k) 0) 64:=AD (by simp [rQ];omega)
   obtain ⟨R,hR⟩:∃x,rQ l k++List.replicate (64-k) 0=x:=⟨_,rfl⟩
   rw [hR] at HS hS hLen2
   clear hR
   repeat' (first
    | (refine AP 34 ?_);refine AG (f:=66) Tryz.call66 AA ?_;refine ⟨_,(CD _ _ _ _ g15 (6+k) l hS AK hr (by omega) (by omega)),?_⟩;rintro e w ⟨rfl,hS2⟩;clear hS;rename _=>hS;refine AX ?_;go_step|(refine AP 36 ?_);refine Ag (.pointer (some ⟨g5,k+3,none⟩)) (V.indexAr Tryz.underlying26 EA rfl rfl Bh.cast (by omega) (Nat.mul_one _) (Nat.add_comm 3 k)) AA ?_;go_step|refine X0 ?_|refine X2 ?_|refine UF ?_|refine X7 ?_|refine cr ?_;clear hS;intro w hS|refine AH ?_;go_step|fail)
   rw [HS.out] at hS
   go_roundg (gk-1)
   case measure=>omega
   case rel=>exact ⟨k+1,by omega,by go_num,by rw [show 6+(k+1)=6+k+1 from rfl];exact hS.sub AV⟩
  obtain rfl:k=64:=by omega
  rw [show rQ l 64++List.replicate (64-64) 0=rQ l 64 by simp] at hS
  have hq64:(rQ l 64).length=64:=by simp [rQ]
  have hz64:=Do (rQ l 64)
  have HQ:=AD hq64
  have hLQ:Ac (rQ l 64) 64:=AD hq64
  have hLZ:Ac (CI (rQ l 64)) 64:=AD hz64
  obtain ⟨Q0,hQ0⟩:∃x,rQ l 64=x:=⟨_,rfl⟩
  obtain ⟨Q1,hQ1⟩:∃x,CI (rQ l 64)=x:=⟨_,rfl⟩
  rw [hQ1] at hLZ
  rw [hQ0] at hLQ hS HQ hQ1
  have HQ0:DM (rQ l 64=Q0):=⟨hQ0⟩
  have HQ1:DM (CI Q0=Q1):=⟨hQ1⟩
  clear hQ0 hQ1 hq64 hz64
  have hRep:JK [.ints Q1] (gp (AJ l 2) (AJ l 3) (AJ l 4) Q0 (List.replicate 16 0) (.slice none 0 0) (List.replicate 16 0) (.slice none 0 0) (AJ l 5) (.slice none 0 0)) 3 (gp (AJ l 2) (AJ l 3) (AJ l 4) Q1 (List.replicate 16 0) (.slice none 0 0) (List.replicate 16 0) (.slice none 0 0) (AJ l 5) (.slice none 0 0)):=VR hLQ hLZ
  have hl1:(AF [.ints Q1]).length=64:=by simp [AF,Ae.cells,hLZ.out]
  have hLn0:Ac (List.replicate 16 0) 16:=Ac.rep
  obtain ⟨C1,hC1⟩:∃x,Iu l 70 16=x:=⟨_,rfl⟩
  have hLC1:Ac C1 16:=AD (by rw [←hC1];simp [Iu])
  obtain ⟨A1,hA1⟩:∃x,rA l 70 16=x:=⟨_,rfl⟩
  rw [hA1] at hr1
  have HC1:DM (Iu l 70 16=C1):=⟨hC1⟩
  have HA1:DM (rA l 70 16=A1):=⟨hA1⟩
  have ht1:∀v,(AF [.ints C1, .val v]).length=17:=fun v=>GX C1 v hLC1
  clear hC1 hA1
  repeat' (first
   | (refine Al 67 ?_);refine Am AA Tryz.call67 (Jn _ Q0 HQ.out) ?_;rintro e w ⟨rfl,hE2⟩;rw [HQ1.out];replace hS:=hS.ext hE2;clear hE2;refine AX ?_;go_step|(refine AP 43 ?_);refine AG (f:=68) Tryz.call68 AA ?_;refine ⟨_,(NU _ _ _ _ g15 70 l hS AK hr (by omega) (by omega)),?_⟩;rintro e w ⟨j1,sa1,sc1,rfl,hj1,hk1,hS2⟩;clear hS;rename _=>hS;rw [HC1.out];rw [HA1.out] at hj1 hk1;replace hk1:DM _:=⟨hk1⟩;refine AX ?_;go_step|(with_reducible refine Ak _ (.store 26 _ _) ?_);refine Ad ?_;refine Eo hS 26 _ _ rfl g5 3 rfl 64 (AO rfl) _ _ [.ints Q1] AK (U6 Q1) hRep hl1 rfl rfl ?_;clear hS;intro w hS|(with_reducible refine Ak _ (.store 32 _ _) ?_);refine Ad ?_;refine Eo hS 32 _ _ rfl g5 67 rfl 17 (AO rfl) _ _ [.ints C1, .val _] AK rfl (VQ hLZ hLn0 hLC1) (ht1 _) rfl rfl ?_;clear hS;intro w hS|refine X1 ?_|refine X2 ?_|refine UF ?_|refine bq ?_|refine Zp ?_|refine WJ ?_|refine AH ?_;go_step|fail)
  obtain ⟨C2,hC2⟩:∃x,Iu l (102+j1) 16=x:=⟨_,rfl⟩
  have hLC2:Ac C2 16:=AD (by rw [←hC2];simp [Iu])
  have hr2:=QN l hr.out (102+j1) 16
  obtain ⟨A2,hA2⟩:∃x,rA l (102+j1) 16=x:=⟨_,rfl⟩
  rw [hA2] at hr2
  have HC2:DM (Iu l (102+j1) 16=C2):=⟨hC2⟩
  have HA2:DM (rA l (102+j1) 16=A2):=⟨hA2⟩
  have ht2:∀v,(AF [.ints C2, .val v]).length=17:=fun v=>GX C2 v hLC2
  clear hC2 hA2
  rw [show 70+32+j1=102+j1 from rfl] at hS
  repeat' (first
   | (refine AP 47 ?_);refine AG (f:=68) Tryz.call68 AA ?_;refine ⟨_,(NU _ _ _ _ g15 (102+j1) l hS AK hr (by omega) (by omega)),?_⟩;rintro e w ⟨j2,sa2,sc2,rfl,hj2,hk2,hS2⟩;clear hS;rename _=>hS;rw [HC2.out];rw [HA2.out] at hj2 hk2;replace hk2:DM _:=⟨hk2⟩;refine AX ?_;go_step|(with_reducible refine Ak _ (.store 32 _ _) ?_);refine Ad ?_;refine Eo hS 32 _ _ rfl g5 84 rfl 17 (AO rfl) _ _ [.ints C2, .val _] AK rfl (Xo hLZ hLC1 hLn0 hLC2) (ht2 _) rfl rfl ?_;clear hS;intro w hS|refine X1 ?_|refine bq ?_|refine Zq ?_|refine AH ?_;go_step|fail)
  obtain ⟨ra,rc,rm,hrm,hrv,hS⟩:=hS.rdr_open AK
  by_cases hsh:l.length<102+j1+32+j2
  ·have hE3:DM (C8 l=3):=⟨by
    rw [C8,if_neg (by omega),if_pos (Xj (HA1.out.symm▸ hj1) (by rw [HA1.out];exact hk1.out) (HA2.out.symm▸ hj2) hsh)]⟩
   rw [decide_eq_true hsh] at hS
   repeat' (first
    | refine Zi 54 ?_|refine X8 ?_|refine UR ?_|refine WG ?_|refine ZY ?_|refine Qz ?_;clear hS;intro w hS|refine AH ?_;go_step|fail)
   refine AM (xs:=[_,_]) rfl (.cons (AB.prt hS rfl (AO (n:=103) rfl) AK (by (repeat (first|exact Bi.nil|(apply Bi.ints;(case hn=>exact DW);(case h=>omega);(case hm=>rfl))|apply Bi.val)))) (.cons (AB.tmp rfl) (.nil))) (by simp) rfl ?_
   rw [hE3.out]
   exact ⟨fun _=>⟨rfl,hS.1⟩,fun h=>absurd h (by decide)⟩
  rw [decide_eq_false hsh] at hS
  obtain ⟨q1,q2,q3⟩:=ah (by rw [HA1.out];exact hk1.out) (by rw [HA2.out];exact hk2.out) (Nat.le_of_not_lt hsh)
  repeat' (first
   | (refine Al 69 ?_);refine Am AA Tryz.call69 (RY _ ra rm rc (l.drop (102+j1+32+j2)) (hrv.ext hS.1) (by omega)) ?_;rintro e w ⟨da,dc,rfl,hS2⟩;replace hS:=hS.call1 hS2;clear hS2;refine AX ?_;go_step|refine X1 ?_|refine UR ?_|refine WG ?_|refine cw ?_|refine dU ?_|refine ZY ?_|refine dB ?_|refine ct ?_;clear hS;intro w hS|refine AH ?_;go_step|fail)
  have hdr:∀x∈l.drop (102+j1+32+j2),0≤x∧x<256:=fun x hx=>Ub hr.out x (List.mem_of_mem_drop hx)
  have hD:=SG hdr
  obtain ⟨D,hDe⟩:∃x,(l.drop (102+j1+32+j2)).map Int.toNat=x:=⟨_,rfl⟩
  have hDlt:∀x∈D,x<256:=fun x hx=>by
   rw [←hDe] at hx
   obtain ⟨y,hy,rfl⟩:=List.mem_map.1 hx
   have:=hdr y hy
   omega
  have hDl:D.length=rm:=by rw [←hDe,hrm];simp
  obtain ⟨f1,hf1⟩:∃x:A8,x=⟨AJ l 2,AJ l 3,AJ l 4,Q1,C1,rS l 102 j1,C2,rS l (102+j1+32) j2,AJ l 5,D⟩:=⟨_,rfl⟩
  have HF:DM (EB l=f1):=⟨by
   rw [hf1];unfold EB;rw [q1,q2,q3,HQ0.out,HQ1.out,HC1.out,HC2.out,hDe]⟩
  have HDe:DM (BV f1=l.drop (102+j1+32+j2)):=⟨by rw [hf1,BV,←hDe];exact hD⟩
  rw [show 70+32=102 from rfl] at hS
  have HPv:DM (Value.agg (AF (gp (AJ l 2) (AJ l 3) (AJ l 4) Q1 C1 (Value.slice sa1 j1 sc1) C2 (Value.slice sa2 j2 sc2) (AJ l 5) (Value.slice da rm dc))).toArray=fv f1 (.slice sa1 j1 sc1) (.slice sa2 j2 sc2) (.slice da rm dc)):=⟨by rw [hf1];rfl⟩
  have e1:f1.s1=rS l 102 j1:=by rw [hf1]
  have e2:f1.s2=rS l (102+j1+32) j2:=by rw [hf1]
  have e3:f1.quant=Q1:=by rw [hf1]
  have e4:f1.c1=C1:=by rw [hf1]
  have e5:f1.c2=C2:=by rw [hf1]
  have e6:f1.data=D:=by rw [hf1]
  clear hf1 hD hDe hdr
  obtain ⟨E,hE⟩:∃x,Bo f1=x:=⟨_,rfl⟩
  by_cases hE0:E=0
  case neg=>
   have hE4:DM (C8 l=4):=⟨by
    rw [C8,if_neg (by omega),if_neg (by omega),HF.out,if_neg (fun h=>hE0 (hE▸ h.1))]⟩
   have HPb:DM (∀w,Sl w 1 (.slice sa1 j1 sc1) j1 ((rS l 102 j1).map (Value.int .i64))→Sl w 1 (.slice sa2 j2 sc2) j2 ((rS l (102+j1+32) j2).map (Value.int .i64))→Calls Tryz.prog 39 #[Value.agg (AF (gp (AJ l 2) (AJ l 3) (AJ l 4) Q1 C1 (Value.slice sa1 j1 sc1) C2 (Value.slice sa2 j2 sc2) (AJ l 5) (Value.slice da rm dc))).toArray] w fun e w'=>e= .returned (.tuple #[.slice none 0 0, .int .i64 E])∧Af w w'):=⟨fun w k1 k2=>HPv.out▸ QJ w f1 sa1 sa2 da j1 j2 rm sc1 sc2 dc (e3▸ hLZ) (e4▸ hLC1) (e5▸ hLC2) (e1▸ k1) (e2▸ k2) (by omega) (by omega) (by omega) (e6▸ hDl) E hE hE0⟩
   clear hE e1 e2 e3 e4 e5 e6
   repeat' (first
    | (refine Al 39 ?_);refine Am AA Tryz.call39 (HPb.out _ (hS.sl AK) (hS.sl AK)) (EW hS ?_);clear hS;intro w hS;go_step|refine Zi 74 ?_|go_skip|refine X0 ?_|refine Eu ?_|refine Et 67 ?_ ?_<;>intro hB<;>(try exact AQ)<;>go_step|refine X4 ?_|refine JE ?_|refine Qz ?_;clear hS;intro w hS|refine AH ?_;go_step|fail)
   refine AM (xs:=[_,_]) rfl (.cons (AB.prt hS rfl (AO (n:=103) rfl) AK (by (repeat (first|exact Bi.nil|(apply Bi.ints;(case hn=>exact DW);(case h=>omega);(case hm=>rfl))|apply Bi.val)))) (.cons (AB.tmp rfl) (.nil))) (by simp) rfl ?_
   rw [hE4.out]
   exact ⟨fun _=>⟨rfl,hS.1⟩,fun h=>absurd h (by decide)⟩
  subst hE0
  obtain ⟨Pk,hPk⟩:∃x,BF f1=x:=⟨_,rfl⟩
  have hPb:=My (J7 hE (e3▸ hLZ.out) (e6▸ hDlt))
  rw [hPk] at hPb
  have HPb2:=AD hPb
  have hpl:=Xh f1
  rw [hPk] at hpl
  have hl3:Pk.length≤1000000:=by
   obtain ⟨_,_,ht1,ht2,hdl⟩:=FK hE
   have k1:=(B8 ht1).2.2.1
   have k2:=(B8 ht2).2.2.1
   omega
  have HPg:DM (∀w,Sl w 1 (.slice sa1 j1 sc1) j1 ((rS l 102 j1).map (Value.int .i64))→Sl w 1 (.slice sa2 j2 sc2) j2 ((rS l (102+j1+32) j2).map (Value.int .i64))→Sl w 1 (.slice da rm dc) rm ((l.drop (102+j1+32+j2)).map (Value.int .u8))→Calls Tryz.prog 39 #[Value.agg (AF (gp (AJ l 2) (AJ l 3) (AJ l 4) Q1 C1 (Value.slice sa1 j1 sc1) C2 (Value.slice sa2 j2 sc2) (AJ l 5) (Value.slice da rm dc))).toArray] w fun e w'=>∃(ao:Option Addr) (co:Nat),e= .returned (.tuple #[.slice ao Pk.length co, .int .i64 0])∧St w w' [own 5 1 ao Pk.length co (Pk.map (Value.int .u8))]):=⟨fun w k1 k2 k3=>HPv.out▸ hPk▸ TV w f1 sa1 sa2 da j1 j2 rm sc1 sc2 dc (e3▸ hLZ) (e4▸ hLC1) (e5▸ hLC2) (e1▸ k1) (e2▸ k2) (HDe.out▸ k3) hE⟩
  by_cases hEq:Pk=l
  case neg=>
   have hE4:DM (C8 l=4):=⟨by
    rw [C8,if_neg (by omega),if_neg (by omega),HF.out,if_neg (fun h=>hEq (hPk▸ h.2))]⟩
   have HEq:=AD (decide_eq_false hEq)
   clear hE e1 e2 e3 e4 e5 e6 hPb hPk hpl hEq
   repeat' (first
    | (refine Al 39 ?_);refine Am AA Tryz.call39 (HPg.out _ (hS.sl AK) (hS.sl AK) (hS.sl AK)) ?_;rintro e w ⟨ao,co,rfl,hS2⟩;replace hS:=hS.call1 hS2;clear hS2;refine AX ?_;go_step|(refine Al 70 ?_);refine Am AA Tryz.call70 (LJ _ ao a Pk.length co n c Pk l (hS.sl AK) (hv.ext hS.1) HPb2.out hr.out) ?_;rintro e w' ⟨rfl,rfl⟩;rw [HEq.out];refine AX ?_;go_step|refine Zi 74 ?_|refine X0 ?_|refine IL ?_|refine Et 67 ?_ ?_<;>intro hB<;>(try exact AQ)<;>go_step|refine X4 ?_|refine KS ?_|refine JE ?_|refine Qz ?_;clear hS;intro w hS|refine AH ?_;go_step|fail)
   refine AM (xs:=[_,_]) rfl (.cons (AB.prt hS rfl (AO (n:=103) rfl) AK (by (repeat (first|exact Bi.nil|(apply Bi.ints;(case hn=>exact DW);(case h=>omega);(case hm=>rfl))|apply Bi.val)))) (.cons (AB.tmp rfl) (.nil))) (by simp) rfl ?_
   rw [hE4.out]
   exact ⟨fun _=>⟨rfl,hS.1⟩,fun h=>absurd h (by decide)⟩
  have hE4:DM (C8 l=0):=⟨by
   rw [C8,if_neg (by omega),if_neg (by omega),HF.out,if_pos ⟨hE,hPk.trans hEq⟩]⟩
  have HEq:=AD (decide_eq_true hEq)
  have E1:DM (f1.s1=rS l 102 j1):=⟨e1⟩
  have E2:DM (f1.s2=rS l (102+j1+32) j2):=⟨e2⟩
  clear hE e1 e2 e3 e4 e5 e6 hPb hPk hpl hEq
  repeat' (first
   | (refine Al 39 ?_);refine Am AA Tryz.call39 (HPg.out _ (hS.sl AK) (hS.sl AK) (hS.sl AK)) ?_;rintro e w ⟨ao,co,rfl,hS2⟩;replace hS:=hS.call1 hS2;clear hS2;refine AX ?_;go_step|(refine Al 70 ?_);refine Am AA Tryz.call70 (LJ _ ao a Pk.length co n c Pk l (hS.sl AK) (hv.ext hS.1) HPb2.out hr.out) ?_;rintro e w' ⟨rfl,rfl⟩;rw [HEq.out];refine AX ?_;go_step|refine X0 ?_|refine IL ?_|refine Et 67 ?_ ?_<;>intro hB<;>(try exact AQ)<;>go_step|refine X4 ?_|refine KS ?_|refine JE ?_|refine Qz ?_;clear hS;intro w hS|refine AH ?_;go_step|fail)
  refine AM (xs:=[_,_]) rfl (.cons (AB.prt hS rfl (AO (n:=103) rfl) AK (by (repeat (first|exact Bi.nil|(apply Bi.ints;(case hn=>exact DW);(case h=>omega);(case hm=>rfl))|apply Bi.val)))) (.cons (AB.tmp rfl) (.nil))) (by simp) rfl ?_
  refine ⟨fun h=>absurd hE4.out h,fun _=>⟨sa1,sa2,da,sc1,sc2,dc,?_,?_⟩⟩
  ·rw [HF.out,q1,q2,q3,←hrm,←HPv.out]
   rfl
  rw [HF.out,q1,q2,q3,←hrm,E1.out,E2.out,HDe.out]
  exact hS.sub AV
end Go.Proofs.YtohacgmhmbijmaaGreatDoor
namespace Go.Proofs.YtohacgmhmbijmaaGreatDoor
attribute [local irreducible] Region.wanted
open Go.RowKit
set_option linter.unusedVariables false
set_option maxRecDepth 100000
set_option maxHeartbeats 8000000
theorem FJ(w:World)(va vb:Value)(xs ys:List Int)(ha:O9 w va xs)(hb:O9 w vb ys):
 Calls Tryz.prog 29 #[va,vb] w fun e w'=>e= .returned (.bool (decide (xs=ys)))∧w=w':=by
 obtain ⟨a,c,rfl,hc1,hc2,ha⟩:=ha.open
 obtain ⟨b,d,rfl,hd1,hd2,hb⟩:=hb.open
 by_cases hl:xs.length=ys.length
 ·have hl':((xs.length:Int) !=(ys.length:Int))=false:=by simp [hl]
  have HL:=AD hl
  clear hl
  go_enter Tryz.func29,Tryz.ntmps29
  go_wp2_with fail
  go_loopg [14] xs.length (fun gk xv wr=>∃(i:Nat),gk+i=xs.length∧xv= .int .i64 i∧xs.take i=ys.take i∧wr=w)
  case atStart=>exact ⟨0,rfl,rfl,rfl,rfl⟩
  case round=>
   obtain ⟨i,hi,rfl,hpre,rfl⟩:=hrel
   have hi':i≤xs.length:=by omega
   have HI:=AD hi
   have HP:=AD hpre
   clear hi hpre
   by_cases hlt:i<xs.length
   ·obtain ⟨ba,oa,rfl,hca⟩:=ha i hlt
    have hlt2:i<ys.length:=by have:=HL.out;omega
    obtain ⟨bb,ob,rfl,hcb⟩:=hb i hlt2
    have h1:=hca i hlt
    have h2:=hcb i hlt2
    clear ha hb hca hcb
    by_cases he:AJ xs i=AJ ys i
    ·have h3:(AJ xs i !=AJ ys i)=false:=by simp [he]
     have HT:=AD (I4 xs ys i hlt hlt2 HP.out he)
     clear he
     have HM:Hid (gk-1+(i+1)=xs.length):=by have:=HI.out;unfold Hid;omega
     have HG:Hid (gk-1<gk):=by have:=HI.out;unfold Hid;omega
     go_wp2_with fail
     go_roundg (gk-1)
     case measure=>exact HG.out
     case rel=>exact ⟨i+1,HM.out,by go_num,HT.out,rfl⟩
    have h3:(AJ xs i !=AJ ys i)=true:=by simp [he]
    have HN:Hid (decide (xs=ys)=false):=by
     unfold Hid;rw [decide_eq_false_iff_not];intro h;exact he (by rw [h])
    clear he
    go_wp2_with fail
    go_ret
    exact ⟨Aw HN.out.symm,rfl⟩
   have HN:Hid (decide (xs=ys)=true):=by
    unfold Hid
    have h1:=HP.out
    have h2:=HL.out
    rw [List.take_of_length_le (by omega),List.take_of_length_le (by omega)] at h1
    simp [h1]
   clear ha hb
   go_wp2_with fail
   go_ret
   exact ⟨Aw HN.out.symm,rfl⟩
 have hl':((xs.length:Int) !=(ys.length:Int))=true:=by simp;omega
 have HN:Hid (decide (xs=ys)=false):=by
  unfold Hid;rw [decide_eq_false_iff_not];intro h;exact hl (by rw [h])
 clear hl ha hb
 go_enter Tryz.func29,Tryz.ntmps29
 go_wp2_with fail
 go_ret
 exact ⟨Aw HN.out.symm,rfl⟩
def eY(w:World)(v:Value)(xs:List Int):Prop:=Sl w 1 v xs.length (xs.map (Value.int .u8))
theorem eY.open{w:World}{v:Value}{xs:List Int}(h:eY w v xs):∃a c,v= .slice a xs.length c∧xs.length≤c∧c≤9223372036854775807∧
 (∀i,i<xs.length→∃b off,a=some ⟨b,off,none⟩∧∀k,k<xs.length→w.cell? ⟨b,off+k,none⟩=some (.int .u8 (AJ xs k))):=by
 obtain ⟨_,a,c,hv,h1,h2,h3⟩:=h
 refine ⟨a,c,hv,h1,by unfold maxLen at h2;exact h2,fun i hi=>?_⟩
 rcases h3 with h3|⟨b,off,ha,hc⟩
 ·omega
 refine ⟨b,off,ha,fun k hk=>?_⟩
 rw [hc k (by omega),List.getElem?_map,List.getElem?_eq_getElem hk]
 simp [AJ,List.getD,List.getElem?_eq_getElem hk]
theorem RX(w:World)(va vb:Value)(xs ys:List Int)(ha:eY w va xs)(hb:eY w vb ys):
 Calls Tryz.prog 44 #[va,vb] w fun e w'=>e= .returned (.bool (decide (xs=ys)))∧w=w':=by
 obtain ⟨a,c,rfl,hc1,hc2,ha⟩:=ha.open
 obtain ⟨b,d,rfl,hd1,hd2,hb⟩:=hb.open
 by_cases hl:xs.length=ys.length
 ·have hl':((xs.length:Int) !=(ys.length:Int))=false:=by simp [hl]
  have HL:=AD hl
  clear hl
  go_enter Tryz.func44,Tryz.ntmps44
  go_wp2_with fail
  go_loopg [14] xs.length (fun gk xv wr=>∃(i:Nat),gk+i=xs.length∧xv= .int .i64 i∧xs.take i=ys.take i∧wr=w)
  case atStart=>exact ⟨0,rfl,rfl,rfl,rfl⟩
  case round=>
   obtain ⟨i,hi,rfl,hpre,rfl⟩:=hrel
   have hi':i≤xs.length:=by omega
   have HI:=AD hi
   have HP:=AD hpre
   clear hi hpre
   by_cases hlt:i<xs.length
   ·obtain ⟨ba,oa,rfl,hca⟩:=ha i hlt
    have hlt2:i<ys.length:=by have:=HL.out;omega
    obtain ⟨bb,ob,rfl,hcb⟩:=hb i hlt2
    have h1:=hca i hlt
    have h2:=hcb i hlt2
    clear ha hb hca hcb
    by_cases he:AJ xs i=AJ ys i
    ·have h3:(AJ xs i !=AJ ys i)=false:=by simp [he]
     have HT:=AD (I4 xs ys i hlt hlt2 HP.out he)
     clear he
     have HM:Hid (gk-1+(i+1)=xs.length):=by have:=HI.out;unfold Hid;omega
     have HG:Hid (gk-1<gk):=by have:=HI.out;unfold Hid;omega
     go_wp2_with fail
     go_roundg (gk-1)
     case measure=>exact HG.out
     case rel=>exact ⟨i+1,HM.out,by go_num,HT.out,rfl⟩
    have h3:(AJ xs i !=AJ ys i)=true:=by simp [he]
    have HN:Hid (decide (xs=ys)=false):=by
     unfold Hid;rw [decide_eq_false_iff_not];intro h;exact he (by rw [h])
    clear he
    go_wp2_with fail
    go_ret
    exact ⟨Aw HN.out.symm,rfl⟩
   have HN:Hid (decide (xs=ys)=true):=by
    unfold Hid
    have h1:=HP.out
    have h2:=HL.out
    rw [List.take_of_length_le (by omega),List.take_of_length_le (by omega)] at h1
    simp [h1]
   clear ha hb
   go_wp2_with fail
   go_ret
   exact ⟨Aw HN.out.symm,rfl⟩
 have hl':((xs.length:Int) !=(ys.length:Int))=true:=by simp;omega
 have HN:Hid (decide (xs=ys)=false):=by
  unfold Hid;rw [decide_eq_false_iff_not];intro h;exact hl (by rw [h])
 clear hl ha hb
 go_enter Tryz.func44,Tryz.ntmps44
 go_wp2_with fail
 go_ret
 exact ⟨Aw HN.out.symm,rfl⟩
end Go.Proofs.YtohacgmhmbijmaaGreatDoor
namespace Go.Proofs.YtohacgmhmbijmaaGreatDoor
attribute [local irreducible] Region.wanted
open Go.ChangeShapes Go.WideShapes Go.ChangeAt Go.RowKit Go.Deep
set_option linter.unusedVariables false
set_option maxRecDepth 100000
set_option maxHeartbeats 8000000
theorem FB{w:World}{ad:Option Addr}{n c:Nat}{xs:List Int}(h:Sl w 1 (.slice ad n c) n (xs.map (Value.int .i64))):O9 w (.slice ad n c) xs:=by
 have hl:xs.length=n:=by have:=h.1;simpa using this
 unfold O9;rw [hl];exact h
theorem WZ{w:World}{ad:Option Addr}{n c:Nat}{xs:List Int}(h:Sl w 1 (.slice ad n c) n (xs.map (Value.int .u8))):eY w (.slice ad n c) xs:=by
 have hl:xs.length=n:=by have:=h.1;simpa using this
 unfold eY;rw [hl];exact h
theorem KD(w0:World)(C S:List Int)(a1 a2:Option Addr)(n c1 c2:Nat)(hC:Ac C 16)(h1:Sl w0 1 (.slice a1 n c1) n (S.map (Value.int .i64)))(h2:Sl w0 1 (.slice a2 n c2) n (S.map (Value.int .i64))):
 Calls Tryz.prog 43 #[tv C (.slice a1 n c1),tv C (.slice a2 n c2)] w0 fun e w=>e= .returned (.bool true)∧Af w0 w:=by
 have hS:=St.start w0
 have hD:=AD (decide_eq_true (show S=S from rfl))
 go_enter Tryz.func43,Tryz.ntmps43
 repeat' (first
  | (refine Al 29 ?_);refine Am AA Tryz.call29 (FJ _ _ _ S S (FB (h1.ext hS.1)) (FB (h2.ext hS.1))) ?_;rintro e w' ⟨rfl,rfl⟩;rw [hD.out];refine AX ?_;go_step|go_skip|refine X0 ?_|refine IR ?_|(refine AP 9 ?_);(refine CY _ (V.eqlA fj rfl rfl (by (repeat (first|assumption|exact Ac.rep|apply Ac.set|((with_reducible show Ac (_::_) _);exact rfl)))) (by (repeat (first|assumption|exact Ac.rep|apply Ac.set|((with_reducible show Ac (_::_) _);exact rfl))))) AA (fun hB=>?_) (fun hB=>?_)<;>(try exact AQ)<;>go_step)|refine dT ?_|refine WI ?_|refine Zl 2 ?_;clear hS;intro g2 w hS|refine Zl 3 ?_;clear hS;intro g3 w hS|refine UH ?_|refine UI ?_|refine AH ?_;go_step|fail)
 all_goals (try (have hF:False:=(hB rfl);cases hF))
 all_goals
  refine A9 rfl (AB.tmp rfl) rfl ?_
  exact ⟨rfl,hS.1⟩
theorem RZ(w0:World)(W H p:Int)(Q C1 S1 C2 S2:List Int)(ev:Int)(D:List Int)(a1 a2 ad b1 b2 bd:Option Addr)(n1 n2 nd c1 c2 cd e1 e2 ed:Nat)(hQ:Ac Q 64)(hC1:Ac C1 16)(hC2:Ac C2 16)
 (h1:Sl w0 1 (.slice a1 n1 c1) n1 (S1.map (Value.int .i64))) (h2:Sl w0 1 (.slice a2 n2 c2) n2 (S2.map (Value.int .i64))) (hd:Sl w0 1 (.slice ad nd cd) nd (D.map (Value.int .u8)))
 (k1:Sl w0 1 (.slice b1 n1 e1) n1 (S1.map (Value.int .i64))) (k2:Sl w0 1 (.slice b2 n2 e2) n2 (S2.map (Value.int .i64))) (kd:Sl w0 1 (.slice bd nd ed) nd (D.map (Value.int .u8))):
 Calls Tryz.prog 18 #[.agg (AF (gp W H p Q C1 (.slice a1 n1 c1) C2 (.slice a2 n2 c2) ev (.slice ad nd cd))).toArray, .agg (AF (gp W H p Q C1 (.slice b1 n1 e1) C2 (.slice b2 n2 e2) ev (.slice bd nd ed))).toArray] w0 fun e w=>e= .returned (.bool true)∧Af w0 w:=by
 have hS:=St.start w0
 have hD:=AD (decide_eq_true (show D=D from rfl))
 go_enter Tryz.func18,Tryz.ntmps18
 repeat' (first
  | refine X8 ?_|refine Js 2 ?_;clear hS;intro g2 w hS|refine Js 3 ?_;clear hS;intro g3 w hS|refine AH ?_;go_step|fail)
 repeat' (first
  | (refine AP 45 ?_);refine AG (f:=43) Tryz.call43 AA ?_;refine ⟨_,(KD _ C1 S1 a1 b1 n1 c1 e1 hC1 (h1.ext hS.1) (k1.ext hS.1)),?_⟩;rintro e w' ⟨rfl,hE2⟩;replace hS:=hS.ext hE2;clear hE2;refine AX ?_;go_step|(refine AP 54 ?_);refine AG (f:=43) Tryz.call43 AA ?_;refine ⟨_,(KD _ C2 S2 a2 b2 n2 c2 e2 hC2 (h2.ext hS.1) (k2.ext hS.1)),?_⟩;rintro e w' ⟨rfl,hE2⟩;replace hS:=hS.ext hE2;clear hE2;refine AX ?_;go_step|(refine Al 44 ?_);refine Am AA Tryz.call44 (RX _ _ _ D D (WZ (hd.ext hS.1)) (WZ (kd.ext hS.1))) ?_;rintro e w' ⟨rfl,rfl⟩;rw [hD.out];refine AX ?_;go_step|go_skip|refine X0 ?_|refine IR ?_|refine X9 9 ?_ ?_<;>intro hB<;>(try exact AQ)<;>go_step|refine X9 15 ?_ ?_<;>intro hB<;>(try exact AQ)<;>go_step|refine X9 22 ?_ ?_<;>intro hB<;>(try exact AQ)<;>go_step|(refine AP 29 ?_);(refine CY _ (V.eqlA b9 rfl rfl (by (repeat (first|assumption|exact Ac.rep|apply Ac.set|((with_reducible show Ac (_::_) _);exact rfl)))) (by (repeat (first|assumption|exact Ac.rep|apply Ac.set|((with_reducible show Ac (_::_) _);exact rfl))))) AA (fun hB=>?_) (fun hB=>?_)<;>(try exact AQ)<;>go_step)|refine X9 36 ?_ ?_<;>intro hB<;>(try exact AQ)<;>go_step|refine Yp ?_|refine Zr ?_|refine bp ?_|refine UF ?_|refine UG ?_|refine bq ?_|refine Zp ?_|refine Zq ?_|refine dU ?_|refine Vx ?_|refine WJ ?_|refine KZ ?_|refine ZX ?_|refine AH ?_;go_step|fail)
 all_goals (try (have hF:False:=(hB rfl);cases hF))
 all_goals
  refine A9 rfl (AB.tmp rfl) rfl ?_
  exact ⟨rfl,hS.1⟩
end Go.Proofs.YtohacgmhmbijmaaGreatDoor
namespace Go.Proofs.YtohacgmhmbijmaaGreatDoor
attribute [local irreducible] Region.wanted
open Go.RowKit
set_option linter.unusedVariables false
set_option maxRecDepth 100000
set_option maxHeartbeats 8000000
theorem Pi(w0:World)(a b:Option Addr)(c d:Nat)(R R2:List Rw)(hP:Av w0 a c R)(hQ:Av w0 b d R2)(hR:R.length≤9223372036854775807)(h:R.map (·.xs)=R2.map (·.xs)):
 Calls Tryz.prog 55 #[.slice a R.length c, .slice b R2.length d] w0 fun e w=>e= .returned (.bool true)∧Af w0 w:=by
 have hS:=St.start w0
 have HP:Hid (Av w0 a c R):=hP
 have HQ:Hid (Av w0 b d R2):=hQ
 have HH:=AD h
 have hl2:R2.length=R.length:=by have:=congrArg List.length h;simpa using this.symm
 obtain ⟨N,hN⟩:∃N,R.length=N:=⟨_,rfl⟩
 rw [hN] at hl2 hR⊢
 rw [hl2]
 have HN:=AD hN
 have HN2:=AD hl2
 have hs1:=hP.sl
 have hs2:=hQ.sl
 rw [hN] at hs1
 rw [hl2] at hs2
 clear hP hQ h hl2 hN
 go_enter Tryz.func55,Tryz.ntmps55
 repeat' (first
  | refine X0 ?_|refine Zo ?_|refine KR ?_|refine AH ?_;go_step|fail)
 all_goals (try exact AQ)
 go_loopg [13] N (fun gk kv w=>∃k:Nat,gk+k=N∧kv= .int .i64 k∧St w0 w [])
 case atStart=>exact ⟨0,rfl,rfl,hS.sub AV⟩
 case round=>
  clear hS
  obtain ⟨k,hk,rfl,hS⟩:=hrel
  by_cases hlt:k<N
  ·obtain ⟨r,hr⟩:∃r,R[k]? =some r:=⟨_,List.getElem?_eq_getElem (by rw [HN.out];exact hlt)⟩
   obtain ⟨s,hs⟩:∃s,R2[k]? =some s:=⟨_,List.getElem?_eq_getElem (by rw [HN2.out];exact hlt)⟩
   obtain ⟨hg0,hrs,hrl⟩:=HP.out.at hr
   obtain ⟨hg1,hss,hsl⟩:=HQ.out.at hs
   have hx:r.xs=s.xs:=by
    have h9:=congrArg (fun l=>l[k]?) HH.out
    simp only [List.getElem?_map,hr,hs,Option.map_some] at h9
    exact Option.some.inj h9
   obtain ⟨ba,oa,rfl,hca⟩:=FR hs1 (by omega)
   obtain ⟨bb,ob,rfl,hcb⟩:=FR hs2 (by omega)
   have hcl0:=hca k _ hg0
   have hcl1:=hcb k _ hg1
   obtain ⟨ra,rc,rx⟩:=r
   obtain ⟨sa,sc,sx⟩:=s
   dsimp only at hx hrs hss hcl0 hcl1
   subst hx
   obtain ⟨rn,hrn⟩:∃n,rx.length=n:=⟨_,rfl⟩
   rw [hrn] at hrs hss hcl0 hcl1
   have HEQ:=AD fun (w:World)(hx:Af w0 w)=>FJ w _ _ rx rx (FB (hrs.ext hx)) (FB (hss.ext hx))
   clear hca hcb hr hs hg0 hg1 hrl hsl hrs hss hs1 hs2
   repeat' (first
    | refine X0 ?_|refine X2 ?_|refine AH ?_;go_step|fail)
   all_goals (try exact AQ)
   refine AR [8] (fun w=>St w0 w []) AA ?_
   replace hS:=hS.drew
   focus
    refine Ab 0 ?_
    refine Ab 1 ?_
    refine BX 2 BU (V.indexSl Tryz.underlying22 Hb rfl rfl BJ (by omega) (Nat.mul_one _) BK) ?_;go_step
    refine fZ 3 [8,9] ?_
    refine Ab 4 ?_
    refine Ab 5 ?_
    refine BX 6 BU (V.indexSl Tryz.underlying22 Hb rfl rfl BJ (by omega) (Nat.mul_one _) BK) ?_;go_step
    refine fZ 7 [8,9] ?_
    refine At 8 ?_
    refine AY (f:=29) rfl Tryz.call29 (HEQ.out _ hS.1) ?_;rintro e w ⟨rfl,rfl⟩;refine ⟨_,rfl,?_⟩
    refine ⟨fun h=>absurd (by decide) h,?_⟩
    refine AL ?_
    go_step
    refine BX 9 BU (V.notD rfl) ?_;go_step
    refine AE AA ?_ _
   all_goals
    repeat' (first|(refine AH ?_;go_step)|fail)
    repeat' (first
     | refine X1 ?_|refine X7 ?_|refine AH ?_;go_step|fail)
    go_roundg (gk-1)
    case measure=>omega
    case rel=>exact ⟨k+1,by omega,by go_num,hS.sub AV⟩
  obtain rfl:k=N:=by omega
  repeat' (first
   | refine X8 ?_|refine X2 ?_|refine AH ?_;go_step|fail)
  repeat' (first
   | refine AH ?_;go_step|fail)
  go_ret
  exact ⟨rfl,hS.1⟩
theorem BQ(w0:World)(m h:Int)(a b:Option Addr)(c d:Nat)(R R2:List Rw)(hP:Av w0 a c R)(hQ:Av w0 b d R2)(hR:R.length≤9223372036854775807)(hh:R.map (·.xs)=R2.map (·.xs)):
 Calls Tryz.prog 23 #[.agg #[.int .i64 m, .int .i64 h, .slice a R.length c], .agg #[.int .i64 m, .int .i64 h, .slice b R2.length d]] w0 fun e w=>e= .returned (.bool true)∧Af w0 w:=by
 have hS:=St.start w0
 have HEL:=AD fun (w:World)(hx:Af w0 w)=>Pi w a b c d R R2 (hP.ext hx) (hQ.ext hx) hR hh
 obtain ⟨n1,hn1⟩:∃n,R.length=n:=⟨_,rfl⟩
 obtain ⟨n2,hn2⟩:∃n,R2.length=n:=⟨_,rfl⟩
 rw [hn1,hn2] at HEL
 rw [hn1,hn2]
 clear hP hQ hR hh hn1 hn2
 go_enter Tryz.func23,Tryz.ntmps23
 repeat' (first
  | (refine Al 55 ?_);refine Am AA Tryz.call55 (HEL.out _ hS.1) (EW hS ?_);clear hS;intro w hS;go_step|refine X0 ?_|refine Eu ?_|refine X9 9 ?_ ?_<;>intro hB<;>(try exact AQ)<;>go_step|refine X9 15 ?_ ?_<;>intro hB<;>(try exact AQ)<;>go_step|refine bn ?_|refine bo ?_|refine UE ?_|refine Sa 2 ?_;clear hS;intro g2 w hS|refine Sa 3 ?_;clear hS;intro g3 w hS|refine ED ?_|refine dW ?_|refine AH ?_;go_step|fail)
 all_goals (try exact AQ)
 go_ret
 exact ⟨rfl,hS.1⟩
theorem Eh{w:World}{s n c:Nat}{a:Option Addr}{cs:List Value}(h:Sl w s (.slice a n c) n cs):n≤9223372036854775807:=by
 obtain ⟨_,a',c',e,h1,h2,_⟩:=h
 unfold maxLen at h2
 omega
theorem S0{w:World}{m h:Int}{np ev:Nat}{q C1 S1 C2 S2 D:List Int}(hq:Ac q 64)(l1:Ac C1 16)(l2:Ac C2 16)(hD:∀x∈D,0≤x∧x<256){a1 a2 ad:Option Addr}{n1 k1 n2 k2 nd kd:Nat}(s1:Sl w 1 (.slice a1 n1 k1) n1 (S1.map (Value.int .i64)))(s2:Sl w 1 (.slice a2 n2 k2) n2 (S2.map (Value.int .i64)))(sd:Sl w 1 (.slice ad nd kd) nd (D.map (Value.int .u8))):FM w (E9 m h np q C1 S1 C2 S2 ev D) a1 a2 ad n1 k1 n2 k2 nd kd:=
 ⟨hq,l1,l2,s1,s2,Eh s1,Eh s2,by rw [LG m h np q C1 S1 C2 S2 ev D hD];exact sd,Eh sd,fun x hx=>by
  obtain ⟨y,hy,rfl⟩:=List.mem_map.1 hx
  have:=hD y hy
  omega⟩
theorem Kd(w:World){m h:Int}{np n K:Nat}{q B C1 S1 C2 S2 D:List Int}{ev:Nat}(hok:1≤m∧m≤64∧1≤h∧h≤64)(hnp:np=1∨np=3)(hq:Ac q 64)(hqk:J8 q=true)(hev:ev≤100)(hK:Ai m h=K)(hn:np*K=n)(hB:B.length=n*64)(hab:A5 B n=true)(he:O8 B n ev C1 S1 C2 S2 D){a1 a2 ad:Option Addr}{n1 k1 n2 k2 nd kd:Nat}(s1:Sl w 1 (.slice a1 n1 k1) n1 (S1.map (Value.int .i64)))(s2:Sl w 1 (.slice a2 n2 k2) n2 (S2.map (Value.int .i64)))(sd:Sl w 1 (.slice ad nd kd) nd (D.map (Value.int .u8)))(hml:∃m,w.cell? ⟨0,0,none⟩=some (.int .i64 m)):
 Calls Tryz.prog 21 #[W6 m h np q C1 (.slice a1 n1 k1) C2 (.slice a2 n2 k2) ev (.slice ad nd kd)] w fun e w'=>∃(a:Option Addr) (c:Nat) (R:List Rw),R.map (·.xs)=Q3 m h q B K np∧e= .returned (.tuple #[.agg #[.int .i64 m, .int .i64 h, .slice a R.length c], .int .i64 0])∧Cc w w' a c R []:=by
 obtain ⟨h1,h2,h3,h4,h5⟩:=Pg hok hnp hqk hev hK hn hB hab he
 have hlt:∀x∈D,0≤x∧x<256:=by rw [he.d];exact Gf
 have hF:=S0 (m:=m) (h:=h) (np:=np) (ev:=ev) hq he.l1 he.l2 hlt s1 s2 sd
 refine (Hq w _ a1 a2 ad n1 k1 n2 k2 nd kd hF hml).mono fun e w' hh=>?_
 obtain ⟨a,c,R,r1,r2,r3⟩:=hh.2 h4
 exact ⟨a,c,R,r1.trans h5,r2,r3⟩
theorem E3{W w:World}{rs rs1 rs2:List Aq}{g6 g7 n:Nat}{xs:List Int}{cs:List Value}(hS:St W w rs)(p1:AU (blk g7 [.slice (some ⟨g6,0,none⟩) n n]) rs rs1)(p2:AU (blk g6 cs) rs rs2)(hcs:cs=xs.map (Value.int .i64))(hn:xs.length=n)(hm:n≤maxLen):Av w (some ⟨g7,0,none⟩) 1 [⟨some ⟨g6,0,none⟩,n,xs⟩]:=by
 subst hn hcs
 refine ⟨?_,fun r hr=>?_⟩
 ·exact hS.slBlk (n:=1) (s:=1) p1 rfl (by decide)
 simp only [List.mem_cons,List.not_mem_nil,or_false] at hr
 subst hr
 exact hS.slBlk (n:=xs.length) (s:=1) p2 (by simp) hm
theorem S7(w:World)(m:Nat)(hm:1≤m∧m≤2)(ev:Nat)(hev:ev≤100)(a6 a7:Option Addr)(c6 c7:Nat)(hP:Av w a7 c7 [⟨a6,c6,List.replicate m 128⟩]):
 Calls Tryz.prog 17 #[.agg #[.int .i64 m, .int .i64 1, .slice a7 1 c7], .agg (iv (List.replicate 64 1)), .int .i64 ev] w fun e w'=>∃(C1 S1 C2 S2 D:List Int) (a1 a2 ad:Option Addr) (n1 k1 n2 k2 nd kd:Nat),O8 (List.replicate 64 0) 1 ev C1 S1 C2 S2 D∧
  e= .returned (.tuple #[W6 m 1 1 (List.replicate 64 1) C1 (.slice a1 n1 k1) C2 (.slice a2 n2 k2) ev (.slice ad nd kd), .int .i64 0])∧St w w' [own 3 1 a1 n1 k1 (S1.map (Value.int .i64)),own 3 1 a2 n2 k2 (S2.map (Value.int .i64)),own 5 1 ad nd kd (D.map (Value.int .u8))]:=by
 have hz:ND m 1 (List.replicate 64 1) [List.replicate m 128]=0∧TI m 1 (List.replicate 64 1) [List.replicate m 128]=List.replicate 64 0∧Ai m 1=1:=by
  obtain rfl|rfl:m=1∨m=2:=by omega
  ·exact ⟨by kernel_rfl,by kernel_rfl,by kernel_rfl⟩
  exact ⟨by kernel_rfl,by kernel_rfl,by kernel_rfl⟩
 obtain ⟨z1,z2,z3⟩:=hz
 have hpe:Dc m 1 (List.replicate 64 1) [List.replicate m 128] ev=0:=by
  unfold Dc
  rw [if_pos z1,if_pos (by omega),z2,z3]
  exact if_pos AA
 refine (Jz w m 1 (by omega) a7 c7 [⟨a6,c6,List.replicate m 128⟩] (by show 1≤9223372036854775807;omega) hP (List.replicate 64 1) List.length_replicate ev hev z1).mono fun e w' hh=>?_
 obtain ⟨C1,S1,C2,S2,D,a1,a2,ad,n1,k1,n2,k2,nd,kd,h1,_,_,_,h2,h3⟩:=hh.2 hpe
 refine ⟨C1,S1,C2,S2,D,a1,a2,ad,n1,k1,n2,k2,nd,kd,?_,h2,h3⟩
 have e1:TI m 1 (List.replicate 64 1) (List.map (fun x=>x.xs) [({ad:=a6,c:=c6,xs:=List.replicate m 128}:Rw)])=List.replicate 64 0:=z2
 rw [e1] at h1
 rw [show [({ad:=a6,c:=c6,xs:=List.replicate m 128}:Rw)].length*Ai m 1=1 by rw [z3];rfl] at h1
 exact h1
theorem OF(m:Nat)(hm:1≤m∧m≤2):Q3 m 1 (List.replicate 64 1) (List.replicate 64 0) 1 1=[List.replicate m 128]:=by
 obtain rfl|rfl:m=1∨m=2:=by omega
 ·kernel_rfl
 kernel_rfl
theorem K7(m0:Int)(m1:Int)(a2:Option Addr)(n2 c2:Nat)(w:World):(Instr.build 24 #[(0, .int .i64 m0),(1, .int .i64 m1),(2, .slice a2 n2 c2)]).run Tryz.prog w= .ok (.agg #[.int .i64 m0, .int .i64 m1, .slice a2 n2 c2]) w:=by kernel_rfl
theorem Uv(n:Int)(i:Nat)(h:i<64):(List.replicate i n++List.replicate (64-i) 0).set i n=List.replicate (i+1) n++List.replicate (64-(i+1)) 0:=by
 obtain ⟨m,hm⟩:∃m,64-i=m+1:=⟨64-i-1,by omega⟩
 rw [hm,show 64-(i+1)=m by omega,List.set_append_right _ _ (by simp),List.length_replicate,Nat.sub_self,List.replicate_succ,List.set_cons_zero,List.replicate_succ',List.append_assoc]
 rfl
theorem NG(w0:World)(n:Int):Calls Tryz.prog 27 #[.int .i64 n] w0 fun e w=>e= .returned (.agg (iv (List.replicate 64 n)))∧Af w0 w:=by
 have hS:=St.start w0
 go_enter Tryz.func27,Tryz.ntmps27
 repeat' (first
  | refine X1 ?_|refine KP 2 ?_;clear hS;intro g2 w hS|refine AH ?_;go_step|fail)
 go_loopg [4] 64 (fun gk kv w=>∃k:Nat,gk+k=64∧kv= .int .i64 k∧St w0 w [arr g2 64 (List.replicate k n++List.replicate (64-k) 0)])
 case atStart=>exact ⟨0,rfl,rfl,by rw [show List.replicate 0 n++List.replicate (64-0) 0=List.replicate 64 0 by simp];exact hS.sub AV⟩
 case round=>
  clear hS
  obtain ⟨k,hk,rfl,hS⟩:=hrel
  by_cases hlt:k<64
  ·have HX:=AD (Uv n k hlt)
   repeat' (first
    | refine X0 ?_|refine X2 ?_|refine WL 9 ?_|refine X7 ?_|refine WD ?_;clear hS;intro w hS|refine AH ?_;go_step|fail)
   go_roundg (gk-1)
   case measure=>omega
   case rel=>exact ⟨k+1,by omega,by go_num,by rw [←HX.out];exact hS.sub AV⟩
  obtain rfl:k=64:=by omega
  rw [show List.replicate 64 n++List.replicate (64-64) 0=List.replicate 64 n by simp] at hS
  repeat' (first
   | refine X2 ?_|refine Jt ?_|refine FX ?_;clear hS;intro w hS|refine AH ?_;go_step|fail)
  refine A9 rfl (AB.arr hS rfl (AO (n:=64) rfl) AK) rfl ?_
  exact ⟨rfl,hS.1⟩
theorem EY(w0:World)(hml:∃m,w0.cell? ⟨0,0,none⟩=some (.int .i64 m)):Calls Tryz.prog 15 #[] w0 fun e w=>e= .returned (.bool true)∧Af w0 w:=by
 have hS:=St.start w0
 have HML:=AD hml
 have HE:Hid (∀w a6 a7,Av w a7 1 [⟨a6,1,[128]⟩]→Calls Tryz.prog 17 #[.agg #[.int .i64 1, .int .i64 1, .slice a7 1 1], .agg (iv (List.replicate 64 1)), .int .i64 0] w fun e w'=>∃(C1 S1 C2 S2 D:List Int) (a1 a2 ad:Option Addr) (n1 k1 n2 k2 nd kd:Nat),O8 (List.replicate 64 0) 1 0 C1 S1 C2 S2 D∧
  e= .returned (.tuple #[.agg (AF [.val (.int .i64 1), .val (.int .i64 1), .val (.int .i64 1), .ints (List.replicate 64 1), .ints C1, .val (.slice a1 n1 k1), .ints C2, .val (.slice a2 n2 k2), .val (.int .i64 0), .val (.slice ad nd kd)]).toArray, .int .i64 0])∧St w w' [own 3 1 a1 n1 k1 (S1.map (Value.int .i64)),own 3 1 a2 n2 k2 (S2.map (Value.int .i64)),own 5 1 ad nd kd (D.map (Value.int .u8))]):=
  fun w a6 a7 hP=>S7 w 1 (by decide) 0 (by decide) a6 a7 1 1 hP
 have HD:Hid (∀w (C1 S1 C2 S2 D:List Int) (a1 a2 ad:Option Addr) (n1 k1 n2 k2 nd kd:Nat),(∃m,w.cell? ⟨0,0,none⟩=some (.int .i64 m))→O8 (List.replicate 64 0) 1 0 C1 S1 C2 S2 D→Sl w 1 (.slice a1 n1 k1) n1 (S1.map (Value.int .i64))→Sl w 1 (.slice a2 n2 k2) n2 (S2.map (Value.int .i64))→Sl w 1 (.slice ad nd kd) nd (D.map (Value.int .u8))→
  Calls Tryz.prog 21 #[.agg (AF [.val (.int .i64 1), .val (.int .i64 1), .val (.int .i64 1), .ints (List.replicate 64 1), .ints C1, .val (.slice a1 n1 k1), .ints C2, .val (.slice a2 n2 k2), .val (.int .i64 0), .val (.slice ad nd kd)]).toArray] w fun e w'=>∃(a:Option Addr) (c:Nat) (R:List Rw),R.map (·.xs)=[[128]]∧e= .returned (.tuple #[.agg #[.int .i64 1, .int .i64 1, .slice a R.length c], .int .i64 0])∧Cc w w' a c R []):=
  fun w C1 S1 C2 S2 D a1 a2 ad n1 k1 n2 k2 nd kd hm he s1 s2 sd=>by
   refine (Kd w (m:=1) (h:=1) (np:=1) (n:=1) (K:=1) (q:=List.replicate 64 1) (B:=List.replicate 64 0) (ev:=0) (by decide) (.inl rfl) List.length_replicate (by decide+kernel) (by decide) (by decide+kernel) rfl rfl (by decide+kernel) he s1 s2 sd hm).mono fun e w' hh=>?_
   obtain ⟨a,c,R,r1,r2,r3⟩:=hh
   exact ⟨a,c,R,r1.trans (OF 1 (by decide)),r2,r3⟩
 clear hml
 go_enter Tryz.func15,Tryz.ntmps15
 repeat' (first
  | refine X8 ?_|(refine AP 8 ?_);(refine Ap AA (V.build (vs:=[(0,_),(1,_),(2,_)]) rfl (K7 _ _ _ _ _)) ?_;go_step)|refine ZL 6 ?_;clear hS;intro g6 w hS|refine cY 7 ?_;clear hS;intro g7 w hS|refine GB 1 ?_;clear hS;intro g1 w hS|refine Ns ?_;clear hS;intro w hS|refine AH ?_;go_step|fail)
 refine AR [2,7] (fun w=>St w0 w [blk g1 [.int .i64 1, .int .i64 1, .slice (some ⟨g7,0,none⟩) 1 1],blk g7 [.slice (some ⟨g6,0,none⟩) 1 1],blk g6 [.int .i64 128]]) AA ?_
 replace hS:=hS.drew
 focus
  refine iO 0 [2,3,4,5,7,8] ?_
  refine BL [1,6] AA (by simp) (.cons Ar AA ?_ (.cons Ar AA ?_ (.nil)))
  rotate_left 1
  focus
   refine Y8 ?_;clear hS;intro g2 w hS
   refine At 1 ?_
   refine AY (f:=27) rfl Tryz.call27 (NG _ 1) ?_;rintro e w ⟨rfl,hE⟩;replace hS:=hS.ext hE;clear hE;refine ⟨_,rfl,?_⟩
   refine ⟨fun _ _=>hS.sub AV,?_⟩
   refine AL ?_
   go_step
   refine At 2 ?_
   refine AY (f:=17) rfl Tryz.call17 (HE.out _ (some ⟨g6,0,none⟩) (some ⟨g7,0,none⟩) (E3 (xs:=[128]) (cs:=[.int .i64 128]) hS AK AK rfl rfl (by decide))) ?_;rintro e w ⟨C1,S1,C2,S2,D,a1,a2,ad,n1,k1,n2,k2,nd,kd,hen,rfl,hS2⟩;replace hS:=hS.call hS2;clear hS2;simp only [List.cons_append,List.nil_append] at hS;have hC1:=hen.l1;have hC2:=hen.l2;have HEN:=AD hen;clear hen;refine ⟨_,rfl,?_⟩
   refine ⟨fun h=>absurd (by decide) h,?_⟩
   refine AL ?_
   go_step
   refine Ab 3 ?_
   refine Y2 4 ?_
   refine Y2 5 ?_
   refine At 7 ?_
   refine Y9 ?_;clear hS;intro w hS
   refine Ab 8 ?_
   refine AE AA ?_ _
  rotate_right 1
  focus
   refine AY (f:=27) rfl Tryz.call27 (NG _ 1) ?_;rintro e w ⟨rfl,hE⟩;replace hS:=hS.ext hE;clear hE;refine ⟨_,rfl,?_⟩
   refine ⟨fun _ _=>hS.sub AV,?_⟩
   refine AL ?_
   go_step
   refine BL [2,6] AA (by simp) (.cons Ar AA ?_ (.cons Ar AA ?_ (.nil)))
   rotate_left 1
   focus
    refine Y8 ?_;clear hS;intro g2 w hS
    refine At 2 ?_
    refine AY (f:=17) rfl Tryz.call17 (HE.out _ (some ⟨g6,0,none⟩) (some ⟨g7,0,none⟩) (E3 (xs:=[128]) (cs:=[.int .i64 128]) hS AK AK rfl rfl (by decide))) ?_;rintro e w ⟨C1,S1,C2,S2,D,a1,a2,ad,n1,k1,n2,k2,nd,kd,hen,rfl,hS2⟩;replace hS:=hS.call hS2;clear hS2;simp only [List.cons_append,List.nil_append] at hS;have hC1:=hen.l1;have hC2:=hen.l2;have HEN:=AD hen;clear hen;refine ⟨_,rfl,?_⟩
    refine ⟨fun h=>absurd (by decide) h,?_⟩
    refine AL ?_
    go_step
    refine Ab 3 ?_
    refine Y2 4 ?_
    refine Y2 5 ?_
    refine At 7 ?_
    refine Y9 ?_;clear hS;intro w hS
    refine Ab 8 ?_
    refine AE AA ?_ _
   rotate_right 1
   focus
    refine AY (f:=17) rfl Tryz.call17 (HE.out _ (some ⟨g6,0,none⟩) (some ⟨g7,0,none⟩) (E3 (xs:=[128]) (cs:=[.int .i64 128]) hS AK AK rfl rfl (by decide))) ?_;rintro e w ⟨C1,S1,C2,S2,D,a1,a2,ad,n1,k1,n2,k2,nd,kd,hen,rfl,hS2⟩;replace hS:=hS.call hS2;clear hS2;simp only [List.cons_append,List.nil_append] at hS;have hC1:=hen.l1;have hC2:=hen.l2;have HEN:=AD hen;clear hen;refine ⟨_,rfl,?_⟩
    refine ⟨fun h=>absurd (by decide) h,?_⟩
    refine AL ?_
    go_step
    refine Ab 3 ?_
    refine Y2 4 ?_
    refine Y2 5 ?_
    refine At 6 ?_
    refine Y8 ?_;clear hS;intro g2 w hS
    refine At 7 ?_
    refine Y9 ?_;clear hS;intro w hS
    refine Ab 8 ?_
    refine AE AA ?_ _
 all_goals
  repeat' (first|(refine AH ?_;go_step)|fail)
  repeat' (first
   | (refine Al 21 ?_);refine Am AA Tryz.call21 (HD.out _ C1 S1 C2 S2 D a1 a2 ad n1 k1 n2 k2 nd kd (HML.out.imp fun m h=>hS.1.cell h) HEN.out (hS.sl AK) (hS.sl AK) (hS.sl AK)) ?_;rintro e w ⟨a9,c9,R9,hR9,rfl,hP9⟩;replace hS:=hS.call hP9;clear hP9;simp only [List.cons_append,List.nil_append] at hS;have HR9:=AD hR9;clear hR9;refine AX ?_;go_step|(refine Al 23 ?_);refine Am AA Tryz.call23 (BQ _ 1 1 (some ⟨g7,0,none⟩) a9 1 c9 [⟨some ⟨g6,0,none⟩,1,[128]⟩] R9 (E3 (xs:=[128]) (cs:=[.int .i64 128]) hS AK AK rfl rfl (by decide)) (Av.of hS AK AK) (by show 1≤9223372036854775807;omega) HR9.out.symm) (EW hS ?_);clear hS;intro w hS;go_step|refine X0 ?_|refine Eu ?_|refine X9 21 ?_ ?_<;>intro hB<;>(try exact AQ)<;>go_step|refine X9 24 ?_ ?_<;>intro hB<;>(try exact AQ)<;>go_step|refine X4 ?_|refine JE ?_|refine GB 4 ?_;clear hS;intro g4 w hS|refine Ns ?_;clear hS;intro w hS|refine PF ?_|refine AH ?_;go_step|fail)
  all_goals (try exact AQ)
  all_goals (try (have hF:False:=(hB rfl);cases hF))
  all_goals
   go_ret
   exact ⟨rfl,hS.1⟩
theorem TR(C1 S1 C2 S2:List Int):∀(L:List (Nat×Nat))(ps:List (List Int))(k:Nat),(La C1 S1 C2 S2 L ps k).1.length=(L.map fun x=>x.2-x.1).sum*64
 | [],_,_=>rfl
 | x::L,ps,k=>by
   have ih:=TR C1 S1 C2 S2 L ps.tail (k+1)
   have h1:(if (mR C1 S1 C2 S2 ps ((x.2-x.1:Nat):Int)).1=0 then (mR C1 S1 C2 S2 ps ((x.2-x.1:Nat):Int)).2 else C4 (x.2-x.1)).length=(x.2-x.1)*64:=by
    split
    ·rename_i h0
     cases ps with
     | nil=>cases h0
     | cons p ps=>
       obtain ⟨n,e,_,hl⟩:=Iw (show (FQ C1 S1 C2 S2 p ((x.2-x.1:Nat):Int)).1=0 from h0)
       rw [show (mR C1 S1 C2 S2 (p::ps) ((x.2-x.1:Nat):Int)).2=(FQ C1 S1 C2 S2 p ((x.2-x.1:Nat):Int)).2 from rfl,hl]
       congr 1;omega
    unfold C4;rw [List.length_replicate]
   rw [La]
   dsimp only
   rw [List.length_append,h1,ih,List.map_cons,List.sum_cons,Nat.add_mul]
theorem az{C1 S1 C2 S2 b:List Int}{n:Nat}{every:Int}(h:(OV C1 S1 C2 S2 b n every).1=0):(OV C1 S1 C2 S2 b n every).2.1.length=n*64:=by
 unfold OV at h⊢
 by_cases hw:JG C1 S1 C2 S2 b n every=0
 ·rw [if_pos hw] at h⊢
  split at h
  ·cases h
  dsimp only
  rw [TR,Of,Int.toNat_natCast]
 rw [if_neg hw] at h;exact absurd h hw
noncomputable def Kl(f:A8):Int×List Int×List Int:=OV f.c1 f.s1 f.c2 f.s2 (BV f) ((f.parts.toNat*Ai f.wide f.high:Nat):Int) f.every
noncomputable def QP(f:A8):Int:=if Bo f=0 then (Kl f).1 else Bo f
noncomputable def Yw(f:A8):List (List Int):=Q3 f.wide f.high f.quant (Kl f).2.1 (Ai f.wide f.high) f.parts.toNat
def PA(w0:World)(E m h:Int)(L:List (List Int))(bad:List Int)(e:Ending)(w:World):Prop:=
 (E≠0→e= .returned (.tuple #[LS, .slice none 0 0, .int .i64 E])∧Af w0 w)∧
 (E=0→∃(a:Option Addr) (c:Nat) (R:List Rw) (ab:Option Addr) (cb nb:Nat),R.map (·.xs)=L∧bad.length=nb∧e= .returned (.tuple #[.agg #[.int .i64 m, .int .i64 h, .slice a R.length c], .slice ab nb cb, .int .i64 0])∧Cc w0 w a c R [own 3 1 ab nb cb (bad.map (Value.int .i64))])
theorem FD(w0:World)(f:A8)(a1 a2 ad:Option Addr)(n1 k1 n2 k2 nd kd:Nat)(hF:FM w0 f a1 a2 ad n1 k1 n2 k2 nd kd)(hml:∃m,w0.cell? ⟨0,0,none⟩=some (.int .i64 m)):
 Calls Tryz.prog 31 #[fv f (.slice a1 n1 k1) (.slice a2 n2 k2) (.slice ad nd kd)] w0 (PA w0 (QP f) f.wide f.high (Yw f) (Kl f).2.2):=by
 have hS:=St.start w0
 have HC:=AD fun (w:World)(hx:Af w0 w)=>(hF.ext hx).chk
 obtain ⟨E,hE⟩:∃E,Bo f=E:=⟨_,rfl⟩
 rw [hE] at HC
 by_cases hz:E=0
 case neg=>
  have HDE:=AD (show QP f=E by unfold QP;rw [hE,if_neg hz])
  obtain ⟨L,hL⟩:∃L,Yw f=L:=⟨_,rfl⟩
  obtain ⟨bad,hbad⟩:∃bad,(Kl f).2.2=bad:=⟨_,rfl⟩
  rw [hL,hbad]
  have hQ:=hF.q
  have hC1:=hF.l1
  have hC2:=hF.l2
  clear hF hL hbad hE hml
  obtain ⟨W,H,p,Q,C1,S1,C2,S2,ev,D⟩:=f
  dsimp only at hQ hC1 hC2⊢
  show Calls Tryz.prog 31 #[.agg (AF [.val (.int .i64 W), .val (.int .i64 H), .val (.int .i64 p), .ints Q, .ints C1, .val (.slice a1 n1 k1), .ints C2, .val (.slice a2 n2 k2), .val (.int .i64 ev), .val (.slice ad nd kd)]).toArray] _ _
  go_enter Tryz.func31,Tryz.ntmps31
  repeat' (first
   | (refine Al 52 ?_);refine Am AA Tryz.call52 (HC.out _ hS.1) (EW hS ?_);clear hS;intro w hS;go_step|refine X0 ?_|refine X3 ?_|refine Zh 13 ?_|refine Js 1 ?_;clear hS;intro g1 w hS|refine GB 2 ?_;clear hS;intro g2 w hS|refine JE ?_|refine Ns ?_;clear hS;intro w hS|refine AH ?_;go_step|fail)
  all_goals (try exact AQ)
  refine AM (xs:=[_,_,_]) rfl (.cons (AB.blk hS rfl (AO (n:=3) rfl) AK rfl) (.cons (AB.tmp rfl) (.cons (AB.tmp rfl) (.nil)))) (by simp) rfl ?_
  exact ⟨fun _=>⟨by rw [HDE.out];rfl,hS.1⟩,fun h=>by rw [HDE.out] at h;exact absurd h hz⟩
 subst hz
 obtain ⟨⟨d1,d2,d3,d4⟩,hqk,e4,e5,hdl⟩:=FK hE
 have hdl':nd≤1000000000:=by rw [←hF.dl];omega
 obtain ⟨np,hnp⟩:∃np:Nat,f.parts=(np:Int):=⟨f.parts.toNat,by omega⟩
 have hnp3:np=1∨np=3:=by omega
 have hsz:=fun w=>NP w f.wide f.high ⟨d1.1,d1.2,d2.1,d2.2⟩ np (Ai f.wide f.high) (np*Ai f.wide f.high) (by omega) rfl rfl f.quant f.c1 f.c2 (.slice a1 n1 k1) (.slice a2 n2 k2) (.slice ad nd kd) f.every hF.q hF.l1 hF.l2
 have HSZ:=AD hsz
 have hpt:f.parts.toNat=np:=by omega
 have hdr:Kl f=OV f.c1 f.s1 f.c2 f.s2 (BV f) ((np*Ai f.wide f.high:Nat):Int) f.every:=by unfold Kl;rw [hpt]
 have hdx:=PZ hF.dlt
 have HSC:Hid (∀w,Af w0 w→Calls Tryz.prog 57 #[.agg (AF [.ints f.c1, .val (.slice a1 n1 k1), .ints f.c2, .val (.slice a2 n2 k2)]).toArray, .slice ad nd kd, .int .i64 ((np*Ai f.wide f.high:Nat):Int), .int .i64 f.every] w (Mv w (Kl f).1 (Kl f).2.1 (Kl f).2.2)):=fun w hx=>by
  rw [hdr]
  exact OW w f.c1 f.c2 f.s1 f.s2 a1 a2 n1 n2 k1 k2 hF.l1 hF.l2 (hF.s1.ext hx) (hF.s2.ext hx) hF.b1 hF.b2 ad nd kd (BV f) _ f.every hdl' (hF.sd.ext hx) hdx (hml.imp fun m h=>hx.cell h)
 have hlen:(Kl f).1=0→(Kl f).2.1.length=np*Ai f.wide f.high*64:=fun h=>by
  rw [hdr] at h⊢;exact az h
 have HLEN:=AD hlen
 have HDE:=AD (show QP f=(Kl f).1 by unfold QP;rw [if_pos hE])
 have HDL:=AD (show Yw f=Q3 f.wide f.high f.quant (Kl f).2.1 (Ai f.wide f.high) np by unfold Yw;rw [hpt])
 obtain ⟨D1,hD1⟩:∃x,(Kl f).1=x:=⟨_,rfl⟩
 obtain ⟨D2,hD2⟩:∃x,(Kl f).2.1=x:=⟨_,rfl⟩
 obtain ⟨D3,hD3⟩:∃x,(Kl f).2.2=x:=⟨_,rfl⟩
 rw [hD1] at HDE
 rw [hD2] at HDL
 rw [hD1,hD2,hD3] at HSC
 rw [hD1,hD2] at HLEN
 rw [hD3]
 obtain ⟨E,hEE⟩:∃x,QP f=x:=⟨_,rfl⟩
 obtain ⟨L,hL⟩:∃x,Yw f=x:=⟨_,rfl⟩
 rw [hEE] at HDE⊢
 rw [hL] at HDL⊢
 have hQ:=hF.q
 have hC1:=hF.l1
 have hC2:=hF.l2
 clear e4 e5 hF hL hEE hE hml hdl hsz hdr hlen hD1 hD2 hD3 hdx hpt hqk d4 d3 hdl'
 obtain ⟨m,h,p,Q,C1,S1,C2,S2,ev,D⟩:=f
 dsimp only at hQ hC1 hC2 d1 d2 hnp HSZ HSC HLEN HDL⊢
 subst hnp
 have hok:1≤m∧m≤64∧1≤h∧h≤64:=⟨d1.1,d1.2,d2.1,d2.2⟩
 obtain ⟨q1,q2,q3⟩:=Ed hok
 obtain ⟨K,hK⟩:∃K,Ai m h=K:=⟨_,rfl⟩
 obtain ⟨M,hM⟩:∃M,np*K=M:=⟨_,rfl⟩
 rw [hK,hM] at HSZ HSC HLEN
 rw [hK] at HDL
 rw [hK] at q1 q2
 have hn1:M≤192:=by
  have:=Nat.mul_le_mul (show np≤3 by omega) q2
  omega
 have HK:=AD hK
 have HM:=AD hM
 clear q3 hK hM
 show Calls Tryz.prog 31 #[.agg (AF [.val (.int .i64 m), .val (.int .i64 h), .val (.int .i64 np), .ints Q, .ints C1, .val (.slice a1 n1 k1), .ints C2, .val (.slice a2 n2 k2), .val (.int .i64 ev), .val (.slice ad nd kd)]).toArray] _ _
 by_cases h0:D1=0
 ·subst h0
  go_enter Tryz.func31,Tryz.ntmps31
  repeat' (first
   | (refine Al 52 ?_);refine Am AA Tryz.call52 (HC.out _ hS.1) (EW hS ?_);clear hS;intro w hS;go_step|refine X0 ?_|refine X3 ?_|refine Js 1 ?_;clear hS;intro g1 w hS|refine GB 2 ?_;clear hS;intro g2 w hS|refine JE ?_|refine AH ?_;go_step|fail)
  all_goals (try exact AQ)
  refine AR [8] (fun w=>St w0 w [blk g2 [.int .i64 0, .int .i64 0, .slice none 0 0],prt g1 [.val (.int .i64 m), .val (.int .i64 h), .val (.int .i64 np), .ints Q, .ints C1, .val (.slice a1 n1 k1), .ints C2, .val (.slice a2 n2 k2), .val (.int .i64 ev), .val (.slice ad nd kd)]]) AA ?_
  replace hS:=hS.drew
  focus
   refine BX 0 BU (V.fieldAddr LO rfl BK) ?_;go_step
   refine bu 1 [8,9,10,11,12,13,14,15] ?_
   refine BX 2 BU (V.fieldAddr LQ rfl BK) ?_;go_step
   refine gQ 3 [8,9,10,11,12,13,14,15] ?_
   refine gO 4 [5,8,9,10,11,12,13,14,15] ?_
   refine BX 6 BU (V.fieldAddr LP rfl BK) ?_;go_step
   refine gP 7 [8,9,10,11,12,13,14,15] ?_
   refine At 5 ?_
   refine AY (f:=53) rfl Tryz.call53 (HSZ.out _) ?_;rintro e w ⟨rfl,hE2⟩;replace hS:=hS.ext hE2;clear hE2;refine ⟨_,rfl,?_⟩
   refine ⟨fun _ _=>hS.sub AV,?_⟩
   refine AL ?_
   go_step
   refine At 8 ?_
   refine AY (f:=57) rfl Tryz.call57 (HSC.out _ hS.1) ?_;rintro e w ⟨ao,co,mb,ab,cb,nb,hmb,hnb,rfl,hS2⟩;replace hS:=Dy hS hS2;clear hS2;have HMB:=AD hmb;have HNB:=AD hnb;clear hmb hnb;refine ⟨_,rfl,?_⟩
   refine ⟨fun h=>absurd (by decide) h,?_⟩
   refine AL ?_
   go_step
   refine Ab 9 ?_
   refine Y2 10 ?_
   refine Y2 11 ?_
   refine Y2 12 ?_
   refine Ab 13 ?_
   refine Ab 14 ?_
   refine Ab 15 ?_
   refine AE AA ?_ _
  all_goals
   repeat' (first|(refine AH ?_;go_step)|fail)
   obtain rfl:mb=M:=by
    have e1:=HMB.out
    have e2:=HLEN.out rfl
    omega
   have hcc:mb≤co∧co≤maxLen:=by
    obtain ⟨_,a9,c9,z2,z3,z4,_⟩:=hS.sl (a:=ao) AK
    cases z2
    exact ⟨z3,z4⟩
   obtain ⟨hcc1,hcc2⟩:=hcc
   repeat' (first
    | (refine Al 54 ?_);refine Am AA Tryz.call54 (NO _ m h hok np hnp3 Q C1 C2 hQ hC1 hC2 _ _ _ ev K mb HK.out HM.out ao co hcc1 hcc2 D2 HMB.out (hS.sl AK)) ?_;rintro e w ⟨a9,c9,R9,hR9,rfl,hP9⟩;replace hS:=hS.call hP9;clear hP9;simp only [List.cons_append,List.nil_append] at hS;have HR9:=AD hR9;clear hR9;refine AX ?_;go_step|refine X0 ?_|refine X3 ?_|refine Ns ?_;clear hS;intro w hS|refine JE ?_|refine AH ?_;go_step|fail)
   all_goals (try exact AQ)
   refine AM (xs:=[_,_,_]) rfl (.cons (AB.blk hS rfl (AO (n:=3) rfl) AK rfl) (.cons (AB.tmp rfl) (.cons (AB.tmp rfl) (.nil)))) (by simp) rfl ?_
   refine ⟨fun h=>absurd HDE.out h,fun _=>⟨a9,c9,R9,ab,cb,nb,by rw [HR9.out,HDL.out],HNB.out,rfl,?_⟩⟩
   unfold Cc
   exact hS.sub AV
 go_enter Tryz.func31,Tryz.ntmps31
 repeat' (first
  | (refine Al 52 ?_);refine Am AA Tryz.call52 (HC.out _ hS.1) (EW hS ?_);clear hS;intro w hS;go_step|refine X0 ?_|refine X3 ?_|refine Js 1 ?_;clear hS;intro g1 w hS|refine GB 2 ?_;clear hS;intro g2 w hS|refine JE ?_|refine AH ?_;go_step|fail)
 all_goals (try exact AQ)
 refine AR [8] (fun w=>St w0 w [blk g2 [.int .i64 0, .int .i64 0, .slice none 0 0],prt g1 [.val (.int .i64 m), .val (.int .i64 h), .val (.int .i64 np), .ints Q, .ints C1, .val (.slice a1 n1 k1), .ints C2, .val (.slice a2 n2 k2), .val (.int .i64 ev), .val (.slice ad nd kd)]]) AA ?_
 replace hS:=hS.drew
 focus
  refine BX 0 BU (V.fieldAddr LO rfl BK) ?_;go_step
  refine bu 1 [8,9,10,11,12,13,14,15] ?_
  refine BX 2 BU (V.fieldAddr LQ rfl BK) ?_;go_step
  refine gQ 3 [8,9,10,11,12,13,14,15] ?_
  refine gO 4 [5,8,9,10,11,12,13,14,15] ?_
  refine BX 6 BU (V.fieldAddr LP rfl BK) ?_;go_step
  refine gP 7 [8,9,10,11,12,13,14,15] ?_
  refine At 5 ?_
  refine AY (f:=53) rfl Tryz.call53 (HSZ.out _) ?_;rintro e w ⟨rfl,hE2⟩;replace hS:=hS.ext hE2;clear hE2;refine ⟨_,rfl,?_⟩
  refine ⟨fun _ _=>hS.sub AV,?_⟩
  refine AL ?_
  go_step
  refine At 8 ?_
  refine AY (f:=57) rfl Tryz.call57 (HSC.out _ hS.1) ?_;rintro e w ⟨ao,co,mb,ab,cb,nb,hmb,hnb,rfl,hS2⟩;replace hS:=Dy hS hS2;clear hS2;have HMB:=AD hmb;have HNB:=AD hnb;clear hmb hnb;refine ⟨_,rfl,?_⟩
  refine ⟨fun h=>absurd (by decide) h,?_⟩
  refine AL ?_
  go_step
  refine Ab 9 ?_
  refine Y2 10 ?_
  refine Y2 11 ?_
  refine Y2 12 ?_
  refine Ab 13 ?_
  refine Ab 14 ?_
  refine Ab 15 ?_
  refine AE AA ?_ _
 all_goals
  repeat' (first|(refine AH ?_;go_step)|fail)
  repeat' (first
   | refine X0 ?_|refine X3 ?_|refine Zh 30 ?_|refine Ns ?_;clear hS;intro w hS|refine AH ?_;go_step|fail)
  all_goals (try exact AQ)
  refine AM (xs:=[_,_,_]) rfl (.cons (AB.blk hS rfl (AO (n:=3) rfl) AK rfl) (.cons (AB.tmp rfl) (.cons (AB.tmp rfl) (.nil)))) (by simp) rfl ?_
  exact ⟨fun _=>⟨by rw [HDE.out];rfl,hS.1⟩,fun h=>by rw [HDE.out] at h;exact absurd h h0⟩
end Go.Proofs.YtohacgmhmbijmaaGreatDoor
