/- What the laws FrameAlone FrameGray FrameNear FrameFlat TopScale TopMirror need, part 11. -/
import Derived.Test.YtohacgmhmbijmaaGreatDoorBaseNZ1
import Derived.Test.YtohacgmhmbijmaaGreatDoorBaseNZ2
import Derived.Test.YtohacgmhmbijmaaGreatDoorBaseNZ3
import Derived.Test.YtohacgmhmbijmaaGreatDoorBaseNZ5
import Derived.Test.YtohacgmhmbijmaaGreatDoorBaseNZ7
import Derived.Test.YtohacgmhmbijmaaGreatDoorBaseNZ8
import Derived.Test.YtohacgmhmbijmaaGreatDoorBaseNZ10
import Derived.Deep.MidRow
namespace Go.Proofs.YtohacgmhmbijmaaGreatDoor
attribute [local irreducible] Region.wanted
open Go.RowKit
set_option linter.unusedVariables false
set_option maxRecDepth 100000
set_option maxHeartbeats 8000000
theorem Rd(n every:Nat)(h:0<every):∀f at_,(Ec n every f at_).length≤n-at_
 | 0,_=>by simp [Ec]
 | f+1,at_=>by
   unfold Ec
   by_cases h0:at_<n
   ·rw [if_pos h0,List.length_cons]
    have:=Rd n every h f (at_+every)
    omega
   rw [if_neg h0];simp
theorem VE(n every:Nat):(Bo n every).length≤n+1:=by
 unfold Bo
 by_cases h:every=0∨n=0
 ·rw [if_pos h];simp
 rw [if_neg h]
 have:=Rd n every (by omega) n 0
 omega
theorem VB(n every:Nat):∀f at_,∀x∈Ec n every f at_,x.1≤x.2∧x.2≤n
 | 0,_,x,hx=>by simp [Ec] at hx
 | f+1,at_,x,hx=>by
   unfold Ec at hx
   by_cases h0:at_<n
   ·rw [if_pos h0] at hx
    rcases List.mem_cons.1 hx with rfl|hx
    ·dsimp only;omega
    exact VB n every f _ x hx
   rw [if_neg h0] at hx;cases hx
theorem Hj(n every:Nat):∀x∈Bo n every,x.1≤x.2∧x.2≤n:=by
 intro x hx
 unfold Bo at hx
 by_cases h:every=0∨n=0
 ·rw [if_pos h] at hx;simp at hx;subst hx;dsimp only;omega
 rw [if_neg h] at hx;exact VB n every n 0 x hx
theorem Ps:∀(k:Nat)(b:List Int)(o:List (List Int))(m p:List Int)(ps:List (List Int))(ms:List Int),b.length≤k→Ek b o m p=some (ps,ms)→(∀x∈b,0≤x∧x<256)→(∀q∈o,∀x∈q,0≤x∧x<256)→(∀x∈p,0≤x∧x<256)→∀L:Nat,p.length+b.length≤L→(∀q∈o,q.length≤L)→∀q∈ps,(∀x∈q,0≤x∧x<256)∧q.length≤L
 | _,[],o,m,p,ps,ms,_,h,hb,ho,hp,L,hl,hol,q,hq=>by
   rw [Ek] at h
   have e:=congrArg Prod.fst (Option.some.inj h)
   dsimp only at e
   subst e
   rcases List.mem_append.1 hq with hq|hq
   ·exact ⟨ho q hq,hol q hq⟩
   rw [List.mem_singleton.1 hq];exact ⟨hp,by simpa using hl⟩
 | 0,x::b,o,m,p,ps,ms,hk,h,hb,ho,hp,L,hl,hol,q,hq=>by simp at hk
 | k+1,x::b,o,m,p,ps,ms,hk,h,hb,ho,hp,L,hl,hol,q,hq=>by
   have hx:=hb x (by simp)
   simp only [List.length_cons] at hk hl
   rw [Ek.eq_def] at h
   dsimp only at h
   by_cases h255:x=255
   ·rw [if_pos h255] at h
    match b,h,hb,hk,hl with
    | [],h,_,_,_=>cases h
    | y::b,h,hb,hk,hl=>
      dsimp only at h
      simp only [List.length_cons] at hk hl
      by_cases h1:y=255
      ·rw [if_pos h1] at h;cases h
      rw [if_neg h1] at h
      by_cases h0:y=0
      ·rw [if_pos h0] at h
       refine Ps k b o m _ ps ms (by omega) h (fun z hz=>hb z (by simp [hz])) ho (fun z hz=>?_) L (by simp;omega) hol q hq
       rcases List.mem_append.1 hz with hz|hz
       ·exact hp z hz
       simp at hz;rcases hz with rfl|rfl<;>omega
      rw [if_neg h0] at h
      refine Ps k b _ _ _ ps ms (by omega) h (fun z hz=>hb z (by simp [hz])) (fun r hr=>?_) (fun z hz=>by cases hz) L (by simp;omega) (fun r hr=>?_) q hq
      ·rcases List.mem_append.1 hr with hr|hr
       ·exact ho r hr
       rw [List.mem_singleton.1 hr];exact hp
      rcases List.mem_append.1 hr with hr|hr
      ·exact hol r hr
      rw [List.mem_singleton.1 hr];omega
   rw [if_neg h255] at h
   refine Ps k b o m _ ps ms (by omega) h (fun z hz=>hb z (by simp [hz])) ho (fun z hz=>?_) L (by simp;omega) hol q hq
   rcases List.mem_append.1 hz with hz|hz
   ·exact hp z hz
   rw [List.mem_singleton.1 hz];exact hx
theorem RY{C1 S1 C2 S2 b:List Int}{z:Int}(h:(IM C1 S1 C2 S2 b z).1=0):∃n:Nat,z=(n:Int)∧n≤400∧(IM C1 S1 C2 S2 b z).2.length=n*64:=by
 obtain ⟨n,h1,h2,h3,_⟩:=TS h
 exact ⟨n,h1,h2,h3⟩
noncomputable def OC(C1 S1 C2 S2:List Int):List (Nat×Nat)→List (List Int)→Int×List Int
 | [],_=>(0,[])
 | x::L,ps=>if (IM C1 S1 C2 S2 (ps.headD []) ((x.2-x.1:Nat):Int)).1≠0 then ((IM C1 S1 C2 S2 (ps.headD []) ((x.2-x.1:Nat):Int)).1,[]) else
   ((OC C1 S1 C2 S2 L ps.tail).1,(IM C1 S1 C2 S2 (ps.headD []) ((x.2-x.1:Nat):Int)).2++(OC C1 S1 C2 S2 L ps.tail).2)
noncomputable def SF(C1 S1 C2 S2 b:List Int)(n every:Int):Int×List Int:=if QG C1 S1 C2 S2 b n every=0 then match Ek b [] [] [] with
 | none=>(4,[])
 | some y=>if (OC C1 S1 C2 S2 (Bo n.toNat every.toNat) y.1).1=0 then OC C1 S1 C2 S2 (Bo n.toNat every.toNat) y.1 else ((OC C1 S1 C2 S2 (Bo n.toNat every.toNat) y.1).1,[])
 else (QG C1 S1 C2 S2 b n every,[])
theorem dx{W w:World}{pcs:List Pc}{rs rs':List Au}(h:St W w rs)(p:AW (star (pcs.map Pc.res)) rs rs'){x:Pc}(hx:x∈pcs):x.ad=none→x.c=0:=by
 obtain ⟨s,hs⟩:=h.starGet p (List.mem_map.2 ⟨x,hx,rfl⟩)
 exact Us hs (show AW (own 5 1 x.ad x.xs.length x.c (x.xs.map (Value.int .u8))) (Pc.res x::s) s from .head)
theorem az{C1 S1 C2 S2 b:List Int}{n every:Int}(h:QG C1 S1 C2 S2 b n every=0):KP n every:=by
 unfold QG at h
 by_cases h1:RO C1 S1 C2 S2 b n every=0
 ·exact (RP h1).1
 rw [if_neg h1] at h;exact absurd h h1
theorem My(w0:World)(C1 C2 S1 S2:List Int)(a1 a2:Option Addr)(n1 n2 k1 k2:Nat)(hC1:Ae C1 16)(hC2:Ae C2 16)(hs1:Sl w0 1 (.slice a1 n1 k1) n1 (S1.map (Value.int .i64)))(hs2:Sl w0 1 (.slice a2 n2 k2) n2 (S2.map (Value.int .i64)))(hn1:n1≤9223372036854775807)(hn2:n2≤9223372036854775807)(ad:Option Addr)(nb c:Nat)(b:List Int)(n every:Int)
 (hb:nb≤1000000000) (hv:Sl w0 1 (.slice ad nb c) nb (b.map (Value.int .u8))) (hx:∀x∈b,0≤x∧x<256) (hml:∃m,w0.cell? ⟨0,0,none⟩=some (.int .i64 m)):
 Calls Tryz.prog 20 #[.agg (AH [.ints C1, .val (.slice a1 n1 k1), .ints C2, .val (.slice a2 n2 k2)]).toArray, .slice ad nb c, .int .i64 n, .int .i64 every] w0 (Gu w0 (SF C1 S1 C2 S2 b n every).1 (SF C1 S1 C2 S2 b n every).2):=by
 have hS:=St.start w0
 have HX:=AD hx
 have HML:=AD hml
 have hbl:b.length=nb:=by have:=hv.1;simpa using this
 clear hx hml
 by_cases hW:QG C1 S1 C2 S2 b n every=0
 case neg=>
  obtain ⟨E,hE⟩:∃E,QG C1 S1 C2 S2 b n every=E:=⟨_,rfl⟩
  have h0:E≠0:=by rw [←hE];exact hW
  have HE:=AD hE
  have HW:=AD (show SF C1 S1 C2 S2 b n every=(E,[]) by unfold SF;rw [if_neg hW,hE])
  clear hW hE
  go_enter Tryz.func20,Tryz.ntmps20
  repeat' (first
   | (refine AQ 22 ?_);refine AL (f:=49) Tryz.call49 AA ?_;refine ⟨_,(Ou _ C1 C2 S1 S2 a1 a2 n1 n2 k1 k2 hC1 hC2 (hs1.ext hS.1) (hs2.ext hS.1) hn1 hn2 ad nb c b n every hb (hv.ext hS.1) HX.out),?_⟩;rintro e w ⟨hq,_⟩;rw [HE.out] at hq;obtain ⟨rfl,hE2⟩:=hq h0;clear hq;replace hS:=hS.ext hE2;clear hE2;refine Ab ?_;go_step|refine X0 ?_|refine X7 ?_|refine X5 ?_|refine SN 4 ?_;clear hS;intro g4 w hS|refine T6 ?_|refine AG ?_;go_step|fail)
  all_goals (try exact AS)
  refine AO (xs:=[_,_]) rfl (.cons (AC.tmp rfl) (.cons (AC.tmp rfl) (.nil))) (by simp) rfl ?_
  exact FV E (by rw [HW.out]) (by rw [HW.out]) hS.1
 have hok:=az hW
 unfold KP at hok
 obtain ⟨N,rfl⟩:∃N:Nat,n=(N:Int):=⟨n.toNat,by omega⟩
 obtain ⟨Ev,rfl⟩:∃N:Nat,every=(N:Int):=⟨every.toNat,by omega⟩
 have HW:=AD hW
 obtain ⟨M,hM⟩:∃M,(Bo N Ev).length=M:=⟨_,rfl⟩
 have hM4:M≤401:=by rw [←hM];have:=VE N Ev;omega
 have HM:=AD hM
 clear hW hM
 go_enter Tryz.func20,Tryz.ntmps20
 repeat' (first
  | (refine AQ 22 ?_);refine AL (f:=49) Tryz.call49 AA ?_;refine ⟨_,(Ou _ C1 C2 S1 S2 a1 a2 n1 n2 k1 k2 hC1 hC2 (hs1.ext hS.1) (hs2.ext hS.1) hn1 hn2 ad nb c b (N:Int) (Ev:Int) hb (hv.ext hS.1) HX.out),?_⟩;rintro e w ⟨_,hq⟩;rw [Int.toNat_natCast,Int.toNat_natCast,HM.out] at hq;obtain ⟨pcs,ms,ao,co,hsp,hpl,rfl,hS2⟩:=hq HW.out;clear hq;have HSP:=AD hsp;have HPL:=AD hpl;clear hsp hpl;replace hS:=hS.call hS2;dsimp only [List.cons_append,List.nil_append] at hS;clear hS2;refine Ab ?_;go_step|refine X0 ?_|refine X7 ?_|refine X5 ?_|refine SN 4 ?_;clear hS;intro g4 w hS|refine T6 ?_|refine AG ?_;go_step|fail)
 all_goals (try exact AS)
 have hin:=Ps b.length b [] [] [] _ ms (Nat.le_refl _) HSP.out HX.out (fun q hq=>(by cases hq)) (fun x hx=>(by cases hx)) nb (by simp;omega) (fun q hq=>(by cases hq))
 have HIN:=AD hin
 obtain ⟨D,hD⟩:∃D,OC C1 S1 C2 S2 (Bo N Ev) (pcs.map (·.xs))=D:=⟨_,rfl⟩
 have HSC:=AD (show SF C1 S1 C2 S2 b N Ev=if D.1=0 then D else (D.1,[]) by
  unfold SF;rw [if_pos HW.out,HSP.out];dsimp only;rw [Int.toNat_natCast,Int.toNat_natCast,hD])
 have HD:=AD hD
 clear hin hD hbl
 repeat' (first
  | (refine AQ 30 ?_);refine AL (f:=50) Tryz.call50 AA ?_;refine ⟨_,(F8 _ N Ev (by omega) (by omega)),?_⟩;rintro e w ⟨a3,c3,m3,hm3,rfl,hS2⟩;obtain rfl:M=m3:=(by rw [←hm3];exact HM.out.symm);clear hm3;replace hS:=hS.call1 hS2;clear hS2;refine Ab ?_;go_step|refine X1 ?_|refine Xo ?_|refine AG ?_;go_step|fail)
 replace hS:=hS.nilk 26 64 .i64
 go_loopg [12,32] M (fun gk ov kv w=>∃(k q:Nat) (acc:List Int) (ao2:Option Addr) (co2:Nat),gk+k=M∧kv= .int .i64 k∧ov= .slice ao2 q co2∧q≤400*k∧Hid (acc.length=q*64)∧D4 (D=((OC C1 S1 C2 S2 ((Bo N Ev).drop k) ((pcs.map (·.xs)).drop k)).1,acc++(OC C1 S1 C2 S2 ((Bo N Ev).drop k) ((pcs.map (·.xs)).drop k)).2))∧St w0 w [own 26 64 ao2 q co2 (acc.map (Value.int .i64)),prt g4 [.ints C1, .val (.slice a1 n1 k1), .ints C2, .val (.slice a2 n2 k2)],own 35 1 ao M co (pcs.map Pc.val),star (pcs.map Pc.res),own 94 2 a3 M c3 ((TU (Bo N Ev)).map (Value.int .i64))])
 case atStart=>exact ⟨0,0,[],none,0,by omega,rfl,rfl,by omega,AD rfl,⟨by rw [←HD.out];rfl⟩,hS.sub AV⟩
 case round=>
  clear hS
  obtain ⟨k,q,acc,ao2,co2,hk,rfl,rfl,hq4,HQ,HV,hS⟩:=hrel
  by_cases hlt:k<M
  ·obtain ⟨⟨f,t⟩,hx⟩:∃x,(Bo N Ev)[k]? =some x:=⟨_,List.getElem?_eq_getElem (by rw [HM.out];exact hlt)⟩
   obtain ⟨⟨pa,pcc,px⟩,hpx⟩:∃x,pcs[k]? =some x:=⟨_,List.getElem?_eq_getElem (by rw [HPL.out];exact hlt)⟩
   have hft:=Hj N Ev _ (List.mem_of_getElem? hx)
   dsimp only at hft
   have hmem:(⟨pa,pcc,px⟩:Pc)∈pcs:=List.mem_of_getElem? hpx
   have hpin:=HIN.out px (List.mem_map.2 ⟨_,hmem,rfl⟩)
   have hpl:px.length≤nb:=hpin.2
   have HPR:=AD hpin.1
   have hseg:=Lg (Bo N Ev) k _ hx
   dsimp only at hseg
   have hpv:(pcs.map Pc.val)[k]? =some (.slice pa px.length pcc):=by rw [List.getElem?_map,hpx];rfl
   have hd1:(Bo N Ev).drop k=(f,t)::(Bo N Ev).drop (k+1):=by
    rw [List.drop_eq_getElem_cons (by rw [HM.out];exact hlt)]
    rw [List.getElem?_eq_getElem (by rw [HM.out];exact hlt)] at hx
    rw [Option.some.inj hx]
   have hd2:(pcs.map (·.xs)).drop k=px::(pcs.map (·.xs)).drop (k+1):=by
    rw [List.drop_eq_getElem_cons (by rw [List.length_map,HPL.out];exact hlt)]
    rw [List.getElem?_eq_getElem (by rw [HPL.out];exact hlt)] at hpx
    rw [List.getElem_map,Option.some.inj hpx]
   obtain ⟨⟨E,B⟩,hR⟩:∃R,IM C1 S1 C2 S2 px ((t-f:Nat):Int)=R:=⟨_,rfl⟩
   have hstep:D4 (OC C1 S1 C2 S2 ((Bo N Ev).drop k) ((pcs.map (·.xs)).drop k)=if E≠0 then (E,[]) else ((OC C1 S1 C2 S2 ((Bo N Ev).drop (k+1)) ((pcs.map (·.xs)).drop (k+1))).1,B++(OC C1 S1 C2 S2 ((Bo N Ev).drop (k+1)) ((pcs.map (·.xs)).drop (k+1))).2)):=⟨by rw [hd1,hd2,OC];simp only [List.headD_cons,List.tail_cons,hR]⟩
   have HBL:D4 (E=0→B.length=(t-f)*64):=⟨fun h=>by
    obtain ⟨n',e1,e2,e3⟩:=RY (C1:=C1) (S1:=S1) (C2:=C2) (S2:=S2) (b:=px) (z:=((t-f:Nat):Int)) (by rw [hR];exact h)
    rw [hR] at e3
    have:n'=t-f:=by omega
    rw [←this];exact e3⟩
   have HR:=AD hR
   have HMEM:=AD hmem
   obtain ⟨g3,rfl⟩:=Cb (a:=a3) hS AM (by omega)
   obtain ⟨g1,rfl⟩:=Cb (a:=ao) hS AM (by omega)
   clear hx hpx hpin hd1 hd2 hR hmem
   repeat' (first
    | refine X0 ?_|refine X2 ?_|refine cP 35 ?_|refine cF ?_|refine bn 14 ?_;clear hS;intro g14 w hS|refine b9 ?_;clear hS;intro w hS|refine AG ?_;go_step|fail)
   all_goals (try exact AS)
   replace hS:St w0 w [blk g14 [.int .i64 (f:Nat), .int .i64 (t:Nat)],own 26 64 ao2 q co2 (acc.map (Value.int .i64)),prt g4 [.ints C1, .val (.slice a1 n1 k1), .ints C2, .val (.slice a2 n2 k2)],own 35 1 (some ⟨g1,0,none⟩) M co (pcs.map Pc.val),star (pcs.map Pc.res),own 94 2 (some ⟨g3,0,none⟩) M c3 ((TU (Bo N Ev)).map (Value.int .i64))]:=hS
   refine AP [10] (fun w=>St w0 w [prt g4 [.ints C1, .val (.slice a1 n1 k1), .ints C2, .val (.slice a2 n2 k2)],own 35 1 (some ⟨g1,0,none⟩) M co (pcs.map Pc.val),blk g14 [.int .i64 (f:Nat), .int .i64 (t:Nat)]]) AA ?_
   replace hS:=hS.drew
   focus
    refine jx 0 [10,11,12,13,14,15] ?_
    refine AY 1 ?_
    refine AY 2 ?_
    refine CA 3 BZ (V.indexSl Tryz.underlying88 kD rfl rfl BJ (by omega) (Nat.mul_one _) BT) ?_;go_step
    apply DG 4 Ai AA AA AA B5 [10,11,12,13,14,15] AA (hS.sub AV)
    case hfr=>intro w hS;((refine Ad ?_;apply Al hS 35 _ rfl _ _ rfl (AK rfl) _ _ _ _ _;(case hp=>exact AM);(case hv=>with_reducible assumption);refine AB ?_;go_step));refine wpList_nil ?_;exact ⟨rfl,rfl⟩
    case hd=>rfl
    refine CA 5 BZ (V.fieldAddr PN rfl BT) ?_;go_step
    refine Y5 6 [9,10,11,12,13,14,15] ?_
    refine CA 7 BZ (V.fieldAddr PM rfl BT) ?_;go_step
    refine Y5 8 [9,10,11,12,13,14,15] ?_
    (refine BA 9 (.int _ (((t-f:Nat):Int))) Ai AA AA AA B5 (V.as (V.subI rfl rfl (by omega)) (by omega)) AA ?_)
    go_step
    refine Ao 10 ?_
    refine AR (f:=51) rfl Tryz.call51 (OD _ C1 C2 S1 S2 a1 a2 n1 n2 k1 k2 hC1 hC2 (hs1.ext hS.1) (hs2.ext hS.1) hn1 hn2 pa px.length pcc px _ (by omega) (dw hS AM HMEM.out) (dx hS AM HMEM.out) HPR.out (HML.out.imp fun m h=>hS.1.cell h) _ HR.out) ?_;rintro e w ⟨al,cl,ml,hml,rfl,hS2⟩;have HMM:=AD hml;dsimp only at hS2⊢;replace hS:=hS.call1 hS2;clear hS2 hml;refine ⟨_,rfl,?_⟩
    refine ⟨fun h=>absurd (by decide) h,?_⟩
    refine AI ?_
    go_step
    refine AY 11 ?_
    refine Y1 12 ?_
    refine Y1 13 ?_
    refine AY 14 ?_
    refine AY 15 ?_
    refine AE AA ?_ _
   all_goals
    repeat' (first|(refine AG ?_;go_step)|fail)
    by_cases hE0:E=0
    case neg=>
     have hD1:D4 (D=(E,acc)):=⟨by rw [HV.out,hstep.out,if_pos hE0];simp⟩
     have HS1:=AD (show SF C1 S1 C2 S2 b N Ev=(E,[]) by rw [HSC.out,hD1.out,if_neg hE0])
     clear HV hstep HBL hD1
     repeat' (first
      | refine X0 ?_|refine X5 ?_|refine AG ?_;go_step|fail)
     all_goals (try exact AS)
     refine AO (xs:=[_,_]) rfl (.cons (AC.tmp rfl) (.cons (AC.tmp rfl) (.nil))) (by simp) rfl ?_
     exact FV E (by rw [HS1.out]) (by rw [HS1.out]) hS.1
    have hbl:=HBL.out hE0
    have HV2:D4 (D=((OC C1 S1 C2 S2 ((Bo N Ev).drop (k+1)) ((pcs.map (·.xs)).drop (k+1))).1,(acc++B)++(OC C1 S1 C2 S2 ((Bo N Ev).drop (k+1)) ((pcs.map (·.xs)).drop (k+1))).2)):=⟨by rw [HV.out,hstep.out,if_neg (by simpa using hE0),List.append_assoc]⟩
    have hml2:ml=t-f:=by have h9:B.length=ml*64:=HMM.out;omega
    clear HV hstep HBL
    subst hE0
    repeat' (first
     | refine X1 ?_|refine X5 ?_|refine AG ?_;go_step|fail)
    all_goals (try exact AS)
    repeat' (first
     | refine X0 ?_|refine X6 ?_|refine fy 56 ?_;clear hS;intro ad56 c56 w hS|refine AG ?_;go_step|fail)
    go_roundg (gk-1)
    case measure=>omega
    case rel=>exact ⟨k+1,q+ml,acc++B,_,_,by omega,by go_num,rfl,by omega,AD (by rw [List.length_append,HQ.out,HMM.out];omega),HV2,hS.sub AV⟩
  obtain rfl:k=M:=by omega
  have hD0:D4 (D=(0,acc)):=⟨by rw [HV.out,List.drop_of_length_le (by rw [HM.out];omega),OC,List.append_nil]⟩
  have HS1:=AD (show SF C1 S1 C2 S2 b N Ev=(0,acc) by rw [HSC.out,hD0.out,if_pos rfl])
  clear HV
  repeat' (first
   | refine X0 ?_|refine X2 ?_|refine AG ?_;go_step|fail)
  all_goals (try exact AS)
  repeat' (first
   | refine AG ?_;go_step|fail)
  refine AO (xs:=[_,_]) rfl (.cons (AC.tmp rfl) (.cons (AC.tmp rfl) (.nil))) (by simp) rfl ?_
  exact ⟨ao2,co2,q,by rw [HS1.out];exact HQ.out,by rw [HS1.out];rfl,by rw [HS1.out];exact hS.sub AV⟩
section
variable{P:Program}{Q:Exit→Act→World→Prop}{a:Act}{W w:World}{c:Code}
theorem bD{F:Nat→Nat→Nat→Nat→Act}(rs:Nat→Nat→Nat→Nat→List Au)(h:c.wp P (fun e a w=>e= .normal∧∃g g' g2 g3,a=F g g' g2 g3∧St W w (rs g g' g2 g3)) a w)(k:∀g g' g2 g3 w,St W w (rs g g' g2 g3)→Q .normal (F g g' g2 g3) w):c.wp P Q a w:=
 Code.wp_mono (fun e a w ⟨he,g,g',g2,g3,ha,hS⟩=>by subst he;subst ha;exact k g g' g2 g3 w hS) h
end
def WF(g5 g6 g8 g9:Nat)(s:List Int×List Int):Au:=star [blk g5 [.slice (some ⟨g8,0,none⟩) 256 256],blk g6 [.slice (some ⟨g9,0,none⟩) 256 256],own 3 1 (some ⟨g8,0,none⟩) 256 256 ((DP s.1).map (Value.int .i64)),own 3 1 (some ⟨g9,0,none⟩) 256 256 ((DP s.2).map (Value.int .i64))]
theorem SY(W w0:World)(rs rs':List Au)(g5 g6 g8 g9:Nat)(A B:List Int)(t0 t1 t2:Int)(b:Bool)(hS:St W w0 rs)(hp:AW (WF g5 g6 g8 g9 (A,B)) rs rs')(hb:A.length+B.length≤1000000)(ht:0≤t0∧t0<256):
 Calls Tryz.prog 101 #[.agg #[.int .i64 t0, .int .i64 t1, .int .i64 t2], .bool b, .pointer (some ⟨g5,0,none⟩), .pointer (some ⟨g6,0,none⟩)] w0 fun e w=>e= .returned (.int .i64 0)∧St W w (WF g5 g6 g8 g9 (CI (A,B) (t0,t1,t2) b).2::rs'):=by
 obtain ⟨_,hS⟩:=(hS.pull hp).open
 dsimp only [List.cons_append,List.nil_append] at hS
 obtain ⟨q,rfl⟩:∃q:Nat,t0=(q:Int):=⟨t0.toNat,by omega⟩
 have hq:q<256:=by omega
 have hA:=IZ A hq
 have hB:=IZ B hq
 have HCA:=AD (QX A hq)
 have HCB:=AD (QX B hq)
 clear hp
 cases b
 ·have HR:=AD (show (CI (A,B) ((q:Int),t1,t2) false).2=(A,B++[(q:Int)]) from rfl)
  go_enter Tryz.func101,Tryz.ntmps101
  repeat' (first
   | refine X0 ?_|refine bt 4 ?_;clear hS;intro g4 w hS|refine AG ?_;go_step|fail)
  repeat' (first
   | refine X8 ?_|refine Xr ?_|refine Vu 18 ?_|refine X6 ?_|refine Vu 21 ?_|refine gC ?_|refine jm ?_|refine Vg ?_;clear hS;intro w hS|refine AG ?_;go_step|fail)
  go_ret
  rw [HR.out]
  refine ⟨rfl,St.close () ?_⟩
  dsimp only [List.cons_append,List.nil_append]
  rw [←HCB.out]
  exact hS.sub AV
 have HR:=AD (show (CI (A,B) ((q:Int),t1,t2) true).2=(A++[(q:Int)],B) from rfl)
 go_enter Tryz.func101,Tryz.ntmps101
 repeat' (first
  | refine X0 ?_|refine Xr ?_|refine Vu 11 ?_|refine X6 ?_|refine Vu 14 ?_|refine bt 4 ?_;clear hS;intro g4 w hS|refine gC ?_|refine jm ?_|refine Vg ?_;clear hS;intro w hS|refine AG ?_;go_step|fail)
 repeat' (first
  | refine AG ?_;go_step|fail)
 go_ret
 rw [HR.out]
 refine ⟨rfl,St.close () ?_⟩
 dsimp only [List.cons_append,List.nil_append]
 rw [←HCA.out]
 exact hS.sub AV
def YZ(W:World)(g5 g6 g8 g9:Nat):jF W (List Int×List Int) where
 step:=CI
 res:=WF g5 g6 g8 g9
 ok s m:=s.1.length+s.2.length+m≤1000000
 K:=101
 caps:=#[.pointer (some ⟨g5,0,none⟩), .pointer (some ⟨g6,0,none⟩)]
 inv:=Tryz.call101
 okS s m t b h _ _:=by
  cases b<;>simp [CI]<;>omega
 okM s m k h hk:=by omega
 call w rs rs' s m t0 t1 t2 b er s' hS hp h ht hst:=by
  obtain ⟨A,B⟩:=s
  have e1:er=0:=by have:=congrArg Prod.fst hst;exact this.symm
  have e2:s'=(CI (A,B) (t0,t1,t2) b).2:=by rw [hst]
  subst e1;subst e2
  exact SY W w rs rs' g5 g6 g8 g9 A B t0 t1 t2 b hS hp (by dsimp only at h;omega) ht.1
theorem UJ(W w0:World)(rs rs':List Au)(g5 g6 g8 g9:Nat)(ad:Option Addr)(n c:Nat)(l:List Int)(E:Int)(hE:Bm l n=E)(hn:n≤9223372036854775807)(hv:Sl W 64 (.slice ad n c) n (l.map (Value.int .i64)))(hS:St W w0 rs)(hp:AW (WF g5 g6 g8 g9 ([],[])) rs rs'):
 Calls Tryz.prog 100 #[.slice ad n c, .func (.func 101) #[] #[.pointer (some ⟨g5,0,none⟩), .pointer (some ⟨g6,0,none⟩)]] w0 fun e w=>e= .returned (.int .i64 E)∧∃s',(E=0→s'=(SH l n,ND l n))∧St W w (WF g5 g6 g8 g9 s'::rs'):=by
 refine (Qf (YZ W g5 g6 g8 g9) w0 rs rs' ([],[]) ad n c l hn hv hS hp (by show (0+0+25600≤1000000);omega)).mono ?_
 rintro e w ⟨s',hs',rfl,hS⟩
 have h2:ES (YZ W g5 g6 g8 g9).step (Dz l 0 n) ([],[])=(0,SH l n,ND l n):=LV l n
 rw [h2] at hs'⊢
 rw [hE] at hs'⊢
 refine ⟨?_,s',hs',hS⟩
 by_cases h0:E=0
 ·rw [if_pos h0,h0]
 rw [if_neg h0]
def Vd(w0:World)(l:List Int)(n:Nat)(e:Ending)(w:World):Prop:=
 (Bm l n=0→∃g1 g2,e= .returned (.tuple #[.slice (some ⟨g1,0,none⟩) 256 256, .slice (some ⟨g2,0,none⟩) 256 256, .int .i64 0])∧St w0 w [own 3 1 (some ⟨g1,0,none⟩) 256 256 ((DP (SH l n)).map (Value.int .i64)),own 3 1 (some ⟨g2,0,none⟩) 256 256 ((DP (ND l n)).map (Value.int .i64))])∧
 (Bm l n≠0→e= .returned (.tuple #[.slice none 0 0, .slice none 0 0, .int .i64 (Bm l n)])∧Ah w0 w)
theorem Fo(w0:World)(ad:Option Addr)(n c:Nat)(l:List Int)(hn:n≤9223372036854775807)(hv:Sl w0 64 (.slice ad n c) n (l.map (Value.int .i64))):
 Calls Tryz.prog 71 #[.slice ad n c] w0 (Vd w0 l n):=by
 have hS:=St.start w0
 obtain ⟨E,hE⟩:∃E,Bm l n=E:=⟨_,rfl⟩
 have HE:=AD hE
 clear hE
 go_enter Tryz.func71,Tryz.ntmps71
 repeat' (first
  | refine X8 ?_|refine AG ?_;go_step|fail)
 apply bD (rs:=fun g5 g6 g8 g9=>[WF g5 g6 g8 g9 ([],[])])
 ·refine AP [] (fun _=>True) AA ?_
  replace hS:=hS.drew
  focus
   refine Ay [0,1,2,3] AA (by simp) (.cons Ai AA ?_ (.cons Ai AA ?_ (.cons Ai AA ?_ (.cons Ai AA ?_ (.nil)))))
   rotate_left 3
   focus
    refine Y3 ?_;clear hS;intro g6 w hS
    refine Ay [0,1,2] AA (by simp) (.cons Ai AA ?_ (.cons Ai AA ?_ (.cons Ai AA ?_ (.nil))))
    rotate_left 2
    focus
     refine Y3 ?_;clear hS;intro g5 w hS
     refine Ay [0,1] AA (by simp) (.cons Ai AA ?_ (.cons Ai AA ?_ (.nil)))
     rotate_left 1
     focus
      refine Y2 ?_;clear hS;intro g9 w hS
      refine Ao 0 ?_
      refine Y2 ?_;clear hS;intro g8 w hS
      refine Ao 4 ?_
      refine Y0 ?_;clear hS;intro w hS
      refine Ao 5 ?_
      refine Y0 ?_;clear hS;intro w hS
      refine AE AA ?_ _
      exact ⟨rfl,g5,g6,g8,g9,rfl,St.close () (by dsimp only [List.cons_append,List.nil_append];rw [Az];exact hS.sub AV)⟩
     rotate_right 1
     focus
      refine Y2 ?_;clear hS;intro g8 w hS
      refine Ay [1,4] AA (by simp) (.cons Ai AA ?_ (.cons Ai AA ?_ (.nil)))
      rotate_left 1
      focus
       refine Y0 ?_;clear hS;intro w hS
       refine Ao 1 ?_
       refine Y2 ?_;clear hS;intro g9 w hS
       refine Ao 5 ?_
       refine Y0 ?_;clear hS;intro w hS
       refine AE AA ?_ _
       exact ⟨rfl,g5,g6,g8,g9,rfl,St.close () (by dsimp only [List.cons_append,List.nil_append];rw [Az];exact hS.sub AV)⟩
      rotate_right 1
      focus
       refine Y2 ?_;clear hS;intro g9 w hS
       refine Ao 4 ?_
       refine Y0 ?_;clear hS;intro w hS
       refine Ao 5 ?_
       refine Y0 ?_;clear hS;intro w hS
       refine AE AA ?_ _
       exact ⟨rfl,g5,g6,g8,g9,rfl,St.close () (by dsimp only [List.cons_append,List.nil_append];rw [Az];exact hS.sub AV)⟩
    rotate_right 1
    focus
     refine Y2 ?_;clear hS;intro g9 w hS
     refine Ay [0,2] AA (by simp) (.cons Ai AA ?_ (.cons Ai AA ?_ (.nil)))
     rotate_left 1
     focus
      refine Y3 ?_;clear hS;intro g5 w hS
      refine Ao 0 ?_
      refine Y2 ?_;clear hS;intro g8 w hS
      refine Ao 4 ?_
      refine Y0 ?_;clear hS;intro w hS
      refine Ao 5 ?_
      refine Y0 ?_;clear hS;intro w hS
      refine AE AA ?_ _
      exact ⟨rfl,g5,g6,g8,g9,rfl,St.close () (by dsimp only [List.cons_append,List.nil_append];rw [Az];exact hS.sub AV)⟩
     rotate_right 1
     focus
      refine Y2 ?_;clear hS;intro g8 w hS
      refine Ao 2 ?_
      refine Y3 ?_;clear hS;intro g5 w hS
      refine Ao 4 ?_
      refine Y0 ?_;clear hS;intro w hS
      refine Ao 5 ?_
      refine Y0 ?_;clear hS;intro w hS
      refine AE AA ?_ _
      exact ⟨rfl,g5,g6,g8,g9,rfl,St.close () (by dsimp only [List.cons_append,List.nil_append];rw [Az];exact hS.sub AV)⟩
    rotate_right 1
    focus
     refine Y2 ?_;clear hS;intro g8 w hS
     refine Ay [1,2] AA (by simp) (.cons Ai AA ?_ (.cons Ai AA ?_ (.nil)))
     rotate_left 1
     focus
      refine Y3 ?_;clear hS;intro g5 w hS
      refine Ay [1,4] AA (by simp) (.cons Ai AA ?_ (.cons Ai AA ?_ (.nil)))
      rotate_left 1
      focus
       refine Y0 ?_;clear hS;intro w hS
       refine Ao 1 ?_
       refine Y2 ?_;clear hS;intro g9 w hS
       refine Ao 5 ?_
       refine Y0 ?_;clear hS;intro w hS
       refine AE AA ?_ _
       exact ⟨rfl,g5,g6,g8,g9,rfl,St.close () (by dsimp only [List.cons_append,List.nil_append];rw [Az];exact hS.sub AV)⟩
      rotate_right 1
      focus
       refine Y2 ?_;clear hS;intro g9 w hS
       refine Ao 4 ?_
       refine Y0 ?_;clear hS;intro w hS
       refine Ao 5 ?_
       refine Y0 ?_;clear hS;intro w hS
       refine AE AA ?_ _
       exact ⟨rfl,g5,g6,g8,g9,rfl,St.close () (by dsimp only [List.cons_append,List.nil_append];rw [Az];exact hS.sub AV)⟩
     rotate_right 1
     focus
      refine Y2 ?_;clear hS;intro g9 w hS
      refine Ao 2 ?_
      refine Y3 ?_;clear hS;intro g5 w hS
      refine Ao 4 ?_
      refine Y0 ?_;clear hS;intro w hS
      refine Ao 5 ?_
      refine Y0 ?_;clear hS;intro w hS
      refine AE AA ?_ _
      exact ⟨rfl,g5,g6,g8,g9,rfl,St.close () (by dsimp only [List.cons_append,List.nil_append];rw [Az];exact hS.sub AV)⟩
   rotate_right 1
   focus
    refine Y3 ?_;clear hS;intro g5 w hS
    refine Ay [0,1,3] AA (by simp) (.cons Ai AA ?_ (.cons Ai AA ?_ (.cons Ai AA ?_ (.nil))))
    rotate_left 2
    focus
     refine Y3 ?_;clear hS;intro g6 w hS
     refine Ay [0,1] AA (by simp) (.cons Ai AA ?_ (.cons Ai AA ?_ (.nil)))
     rotate_left 1
     focus
      refine Y2 ?_;clear hS;intro g9 w hS
      refine Ao 0 ?_
      refine Y2 ?_;clear hS;intro g8 w hS
      refine Ao 4 ?_
      refine Y0 ?_;clear hS;intro w hS
      refine Ao 5 ?_
      refine Y0 ?_;clear hS;intro w hS
      refine AE AA ?_ _
      exact ⟨rfl,g5,g6,g8,g9,rfl,St.close () (by dsimp only [List.cons_append,List.nil_append];rw [Az];exact hS.sub AV)⟩
     rotate_right 1
     focus
      refine Y2 ?_;clear hS;intro g8 w hS
      refine Ay [1,4] AA (by simp) (.cons Ai AA ?_ (.cons Ai AA ?_ (.nil)))
      rotate_left 1
      focus
       refine Y0 ?_;clear hS;intro w hS
       refine Ao 1 ?_
       refine Y2 ?_;clear hS;intro g9 w hS
       refine Ao 5 ?_
       refine Y0 ?_;clear hS;intro w hS
       refine AE AA ?_ _
       exact ⟨rfl,g5,g6,g8,g9,rfl,St.close () (by dsimp only [List.cons_append,List.nil_append];rw [Az];exact hS.sub AV)⟩
      rotate_right 1
      focus
       refine Y2 ?_;clear hS;intro g9 w hS
       refine Ao 4 ?_
       refine Y0 ?_;clear hS;intro w hS
       refine Ao 5 ?_
       refine Y0 ?_;clear hS;intro w hS
       refine AE AA ?_ _
       exact ⟨rfl,g5,g6,g8,g9,rfl,St.close () (by dsimp only [List.cons_append,List.nil_append];rw [Az];exact hS.sub AV)⟩
    rotate_right 1
    focus
     refine Y2 ?_;clear hS;intro g9 w hS
     refine Ay [0,3] AA (by simp) (.cons Ai AA ?_ (.cons Ai AA ?_ (.nil)))
     rotate_left 1
     focus
      refine Y3 ?_;clear hS;intro g6 w hS
      refine Ao 0 ?_
      refine Y2 ?_;clear hS;intro g8 w hS
      refine Ao 4 ?_
      refine Y0 ?_;clear hS;intro w hS
      refine Ao 5 ?_
      refine Y0 ?_;clear hS;intro w hS
      refine AE AA ?_ _
      exact ⟨rfl,g5,g6,g8,g9,rfl,St.close () (by dsimp only [List.cons_append,List.nil_append];rw [Az];exact hS.sub AV)⟩
     rotate_right 1
     focus
      refine Y2 ?_;clear hS;intro g8 w hS
      refine Ao 3 ?_
      refine Y3 ?_;clear hS;intro g6 w hS
      refine Ao 4 ?_
      refine Y0 ?_;clear hS;intro w hS
      refine Ao 5 ?_
      refine Y0 ?_;clear hS;intro w hS
      refine AE AA ?_ _
      exact ⟨rfl,g5,g6,g8,g9,rfl,St.close () (by dsimp only [List.cons_append,List.nil_append];rw [Az];exact hS.sub AV)⟩
    rotate_right 1
    focus
     refine Y2 ?_;clear hS;intro g8 w hS
     refine Ay [1,3] AA (by simp) (.cons Ai AA ?_ (.cons Ai AA ?_ (.nil)))
     rotate_left 1
     focus
      refine Y3 ?_;clear hS;intro g6 w hS
      refine Ay [1,4] AA (by simp) (.cons Ai AA ?_ (.cons Ai AA ?_ (.nil)))
      rotate_left 1
      focus
       refine Y0 ?_;clear hS;intro w hS
       refine Ao 1 ?_
       refine Y2 ?_;clear hS;intro g9 w hS
       refine Ao 5 ?_
       refine Y0 ?_;clear hS;intro w hS
       refine AE AA ?_ _
       exact ⟨rfl,g5,g6,g8,g9,rfl,St.close () (by dsimp only [List.cons_append,List.nil_append];rw [Az];exact hS.sub AV)⟩
      rotate_right 1
      focus
       refine Y2 ?_;clear hS;intro g9 w hS
       refine Ao 4 ?_
       refine Y0 ?_;clear hS;intro w hS
       refine Ao 5 ?_
       refine Y0 ?_;clear hS;intro w hS
       refine AE AA ?_ _
       exact ⟨rfl,g5,g6,g8,g9,rfl,St.close () (by dsimp only [List.cons_append,List.nil_append];rw [Az];exact hS.sub AV)⟩
     rotate_right 1
     focus
      refine Y2 ?_;clear hS;intro g9 w hS
      refine Ao 3 ?_
      refine Y3 ?_;clear hS;intro g6 w hS
      refine Ao 4 ?_
      refine Y0 ?_;clear hS;intro w hS
      refine Ao 5 ?_
      refine Y0 ?_;clear hS;intro w hS
      refine AE AA ?_ _
      exact ⟨rfl,g5,g6,g8,g9,rfl,St.close () (by dsimp only [List.cons_append,List.nil_append];rw [Az];exact hS.sub AV)⟩
   rotate_right 1
   focus
    refine Y2 ?_;clear hS;intro g9 w hS
    refine Ay [0,2,3] AA (by simp) (.cons Ai AA ?_ (.cons Ai AA ?_ (.cons Ai AA ?_ (.nil))))
    rotate_left 2
    focus
     refine Y3 ?_;clear hS;intro g6 w hS
     refine Ay [0,2] AA (by simp) (.cons Ai AA ?_ (.cons Ai AA ?_ (.nil)))
     rotate_left 1
     focus
      refine Y3 ?_;clear hS;intro g5 w hS
      refine Ao 0 ?_
      refine Y2 ?_;clear hS;intro g8 w hS
      refine Ao 4 ?_
      refine Y0 ?_;clear hS;intro w hS
      refine Ao 5 ?_
      refine Y0 ?_;clear hS;intro w hS
      refine AE AA ?_ _
      exact ⟨rfl,g5,g6,g8,g9,rfl,St.close () (by dsimp only [List.cons_append,List.nil_append];rw [Az];exact hS.sub AV)⟩
     rotate_right 1
     focus
      refine Y2 ?_;clear hS;intro g8 w hS
      refine Ao 2 ?_
      refine Y3 ?_;clear hS;intro g5 w hS
      refine Ao 4 ?_
      refine Y0 ?_;clear hS;intro w hS
      refine Ao 5 ?_
      refine Y0 ?_;clear hS;intro w hS
      refine AE AA ?_ _
      exact ⟨rfl,g5,g6,g8,g9,rfl,St.close () (by dsimp only [List.cons_append,List.nil_append];rw [Az];exact hS.sub AV)⟩
    rotate_right 1
    focus
     refine Y3 ?_;clear hS;intro g5 w hS
     refine Ay [0,3] AA (by simp) (.cons Ai AA ?_ (.cons Ai AA ?_ (.nil)))
     rotate_left 1
     focus
      refine Y3 ?_;clear hS;intro g6 w hS
      refine Ao 0 ?_
      refine Y2 ?_;clear hS;intro g8 w hS
      refine Ao 4 ?_
      refine Y0 ?_;clear hS;intro w hS
      refine Ao 5 ?_
      refine Y0 ?_;clear hS;intro w hS
      refine AE AA ?_ _
      exact ⟨rfl,g5,g6,g8,g9,rfl,St.close () (by dsimp only [List.cons_append,List.nil_append];rw [Az];exact hS.sub AV)⟩
     rotate_right 1
     focus
      refine Y2 ?_;clear hS;intro g8 w hS
      refine Ao 3 ?_
      refine Y3 ?_;clear hS;intro g6 w hS
      refine Ao 4 ?_
      refine Y0 ?_;clear hS;intro w hS
      refine Ao 5 ?_
      refine Y0 ?_;clear hS;intro w hS
      refine AE AA ?_ _
      exact ⟨rfl,g5,g6,g8,g9,rfl,St.close () (by dsimp only [List.cons_append,List.nil_append];rw [Az];exact hS.sub AV)⟩
    rotate_right 1
    focus
     refine Y2 ?_;clear hS;intro g8 w hS
     refine Ay [2,3] AA (by simp) (.cons Ai AA ?_ (.cons Ai AA ?_ (.nil)))
     rotate_left 1
     focus
      refine Y3 ?_;clear hS;intro g6 w hS
      refine Ao 2 ?_
      refine Y3 ?_;clear hS;intro g5 w hS
      refine Ao 4 ?_
      refine Y0 ?_;clear hS;intro w hS
      refine Ao 5 ?_
      refine Y0 ?_;clear hS;intro w hS
      refine AE AA ?_ _
      exact ⟨rfl,g5,g6,g8,g9,rfl,St.close () (by dsimp only [List.cons_append,List.nil_append];rw [Az];exact hS.sub AV)⟩
     rotate_right 1
     focus
      refine Y3 ?_;clear hS;intro g5 w hS
      refine Ao 3 ?_
      refine Y3 ?_;clear hS;intro g6 w hS
      refine Ao 4 ?_
      refine Y0 ?_;clear hS;intro w hS
      refine Ao 5 ?_
      refine Y0 ?_;clear hS;intro w hS
      refine AE AA ?_ _
      exact ⟨rfl,g5,g6,g8,g9,rfl,St.close () (by dsimp only [List.cons_append,List.nil_append];rw [Az];exact hS.sub AV)⟩
   rotate_right 1
   focus
    refine Y2 ?_;clear hS;intro g8 w hS
    refine Ay [1,2,3] AA (by simp) (.cons Ai AA ?_ (.cons Ai AA ?_ (.cons Ai AA ?_ (.nil))))
    rotate_left 2
    focus
     refine Y3 ?_;clear hS;intro g6 w hS
     refine Ay [1,2] AA (by simp) (.cons Ai AA ?_ (.cons Ai AA ?_ (.nil)))
     rotate_left 1
     focus
      refine Y3 ?_;clear hS;intro g5 w hS
      refine Ay [1,4] AA (by simp) (.cons Ai AA ?_ (.cons Ai AA ?_ (.nil)))
      rotate_left 1
      focus
       refine Y0 ?_;clear hS;intro w hS
       refine Ao 1 ?_
       refine Y2 ?_;clear hS;intro g9 w hS
       refine Ao 5 ?_
       refine Y0 ?_;clear hS;intro w hS
       refine AE AA ?_ _
       exact ⟨rfl,g5,g6,g8,g9,rfl,St.close () (by dsimp only [List.cons_append,List.nil_append];rw [Az];exact hS.sub AV)⟩
      rotate_right 1
      focus
       refine Y2 ?_;clear hS;intro g9 w hS
       refine Ao 4 ?_
       refine Y0 ?_;clear hS;intro w hS
       refine Ao 5 ?_
       refine Y0 ?_;clear hS;intro w hS
       refine AE AA ?_ _
       exact ⟨rfl,g5,g6,g8,g9,rfl,St.close () (by dsimp only [List.cons_append,List.nil_append];rw [Az];exact hS.sub AV)⟩
     rotate_right 1
     focus
      refine Y2 ?_;clear hS;intro g9 w hS
      refine Ao 2 ?_
      refine Y3 ?_;clear hS;intro g5 w hS
      refine Ao 4 ?_
      refine Y0 ?_;clear hS;intro w hS
      refine Ao 5 ?_
      refine Y0 ?_;clear hS;intro w hS
      refine AE AA ?_ _
      exact ⟨rfl,g5,g6,g8,g9,rfl,St.close () (by dsimp only [List.cons_append,List.nil_append];rw [Az];exact hS.sub AV)⟩
    rotate_right 1
    focus
     refine Y3 ?_;clear hS;intro g5 w hS
     refine Ay [1,3] AA (by simp) (.cons Ai AA ?_ (.cons Ai AA ?_ (.nil)))
     rotate_left 1
     focus
      refine Y3 ?_;clear hS;intro g6 w hS
      refine Ay [1,4] AA (by simp) (.cons Ai AA ?_ (.cons Ai AA ?_ (.nil)))
      rotate_left 1
      focus
       refine Y0 ?_;clear hS;intro w hS
       refine Ao 1 ?_
       refine Y2 ?_;clear hS;intro g9 w hS
       refine Ao 5 ?_
       refine Y0 ?_;clear hS;intro w hS
       refine AE AA ?_ _
       exact ⟨rfl,g5,g6,g8,g9,rfl,St.close () (by dsimp only [List.cons_append,List.nil_append];rw [Az];exact hS.sub AV)⟩
      rotate_right 1
      focus
       refine Y2 ?_;clear hS;intro g9 w hS
       refine Ao 4 ?_
       refine Y0 ?_;clear hS;intro w hS
       refine Ao 5 ?_
       refine Y0 ?_;clear hS;intro w hS
       refine AE AA ?_ _
       exact ⟨rfl,g5,g6,g8,g9,rfl,St.close () (by dsimp only [List.cons_append,List.nil_append];rw [Az];exact hS.sub AV)⟩
     rotate_right 1
     focus
      refine Y2 ?_;clear hS;intro g9 w hS
      refine Ao 3 ?_
      refine Y3 ?_;clear hS;intro g6 w hS
      refine Ao 4 ?_
      refine Y0 ?_;clear hS;intro w hS
      refine Ao 5 ?_
      refine Y0 ?_;clear hS;intro w hS
      refine AE AA ?_ _
      exact ⟨rfl,g5,g6,g8,g9,rfl,St.close () (by dsimp only [List.cons_append,List.nil_append];rw [Az];exact hS.sub AV)⟩
    rotate_right 1
    focus
     refine Y2 ?_;clear hS;intro g9 w hS
     refine Ay [2,3] AA (by simp) (.cons Ai AA ?_ (.cons Ai AA ?_ (.nil)))
     rotate_left 1
     focus
      refine Y3 ?_;clear hS;intro g6 w hS
      refine Ao 2 ?_
      refine Y3 ?_;clear hS;intro g5 w hS
      refine Ao 4 ?_
      refine Y0 ?_;clear hS;intro w hS
      refine Ao 5 ?_
      refine Y0 ?_;clear hS;intro w hS
      refine AE AA ?_ _
      exact ⟨rfl,g5,g6,g8,g9,rfl,St.close () (by dsimp only [List.cons_append,List.nil_append];rw [Az];exact hS.sub AV)⟩
     rotate_right 1
     focus
      refine Y3 ?_;clear hS;intro g5 w hS
      refine Ao 3 ?_
      refine Y3 ?_;clear hS;intro g6 w hS
      refine Ao 4 ?_
      refine Y0 ?_;clear hS;intro w hS
      refine Ao 5 ?_
      refine Y0 ?_;clear hS;intro w hS
      refine AE AA ?_ _
      exact ⟨rfl,g5,g6,g8,g9,rfl,St.close () (by dsimp only [List.cons_append,List.nil_append];rw [Az];exact hS.sub AV)⟩
 clear hS
 intro g5 g6 g8 g9 w hS
 by_cases hE0:E=0
 ·subst hE0
  repeat' (first
   | refine jq 11 ?_|(refine AQ 12 ?_);refine AL (f:=100) Tryz.call100 AA ?_;refine ⟨_,(UJ w0 w _ _ g5 g6 g8 g9 ad n c l 0 HE.out hn hv hS AW.head),?_⟩;clear hS;rintro e w ⟨rfl,s',hs',hS⟩;obtain rfl:=hs' rfl;clear hs';refine Ab ?_;go_step|refine X0 ?_|refine X5 ?_|refine AG ?_;go_step|fail)
  all_goals (try exact AS)
  obtain ⟨_,hS⟩:=(hS.pull AW.head).open
  dsimp only [List.cons_append,List.nil_append] at hS
  refine AP [] (fun w=>St w0 w [blk g5 [.slice (some ⟨g8,0,none⟩) 256 256],blk g6 [.slice (some ⟨g9,0,none⟩) 256 256]]) AA ?_
  replace hS:=hS.drew
  focus
   refine lE 0 [2,3,4] ?_
   refine lE 1 [3,4] ?_
   refine AY 2 ?_
   refine AY 3 ?_
   refine AY 4 ?_
   refine AE AA ?_ _
  all_goals
   repeat' (first|(refine AG ?_;go_step)|fail)
   refine AO (xs:=[_,_,_]) rfl (.cons (AC.tmp rfl) (.cons (AC.tmp rfl) (.cons (AC.tmp rfl) (.nil)))) (by simp) rfl ?_
   exact ⟨fun _=>⟨g8,g9,rfl,hS.sub AV⟩,fun h=>absurd HE.out h⟩
 repeat' (first
  | refine jq 11 ?_|(refine AQ 12 ?_);refine AL (f:=100) Tryz.call100 AA ?_;refine ⟨_,(UJ w0 w _ _ g5 g6 g8 g9 ad n c l E HE.out hn hv hS AW.head),?_⟩;clear hS;rintro e w ⟨rfl,s',hs',hS⟩;clear hs';refine Ab ?_;go_step|refine X0 ?_|refine X5 ?_|refine AG ?_;go_step|fail)
 all_goals (try exact AS)
 refine AO (xs:=[_,_,_]) rfl (.cons (AC.tmp rfl) (.cons (AC.tmp rfl) (.cons (AC.tmp rfl) (.nil)))) (by simp) rfl ?_
 exact ⟨fun h=>absurd (HE.out.symm.trans h) hE0,fun _=>⟨by rw [HE.out];rfl,hS.1⟩⟩
theorem aD{C1 S1 C2 S2 l:List Int}{n:Nat}(hl:l.length=n*64)(h:DO C1 S1 C2 S2 l n=0):
 ∃cc:List Nat,(∀x∈cc,x<256)∧EL C1 S1 C2 S2 l n=EX (Gw cc)∧(EL C1 S1 C2 S2 l n).length≤300000:=by
 have ht:Eu C1 S1 C2 S2=0:=by
  unfold DO at h
  by_cases h1:Eu C1 S1 C2 S2=0
  ·exact h1
  rw [if_neg h1] at h;exact absurd h h1
 have hb:Bm l n=0:=by
  unfold DO at h
  rw [if_pos ht] at h
  by_cases h1:Bm l n=0
  ·exact h1
  rw [if_neg h1] at h;exact absurd h h1
 have ht1:A5 C1 S1=0:=by
  unfold Eu at ht
  by_cases h1:A5 C1 S1=0
  ·exact h1
  rw [if_neg h1] at ht;exact absurd ht h1
 have ht2:A5 C2 S2=0:=by unfold Eu at ht;rw [if_pos ht1] at ht;exact ht
 have hlen:=K1 ht1 ht2 hl (I9 hb)
 have e:EL C1 S1 C2 S2 l n=EX (Gw (bytesOf (CD C1 S1 C2 S2 l n))):=by unfold EL;rw [if_pos h]
 refine ⟨_,E8 _,e,?_⟩
 rw [e,Pt]
 have h1:=List.count_le_length (a:=(255:Int)) (l:=Gw (bytesOf (CD C1 S1 C2 S2 l n)))
 have h2:(Gw (bytesOf (CD C1 S1 C2 S2 l n))).length=((CD C1 S1 C2 S2 l n).length+7)/8:=by unfold Gw;rw [List.length_map,Gx]
 omega
theorem aC{C1 S1 C2 S2 l:List Int}{n:Nat}(h:DO C1 S1 C2 S2 l n≠0):EL C1 S1 C2 S2 l n=[]:=by unfold EL;rw [if_neg h]
theorem Rc(n every:Nat):∀f at_,∀x∈Ec n every f at_,x.1≤x.2∧x.2≤n
 | 0,_,x,hx=>by simp [Ec] at hx
 | f+1,at_,x,hx=>by
   unfold Ec at hx
   by_cases h0:at_<n
   ·rw [if_pos h0] at hx
    rcases List.mem_cons.1 hx with rfl|hx
    ·dsimp only;omega
    exact Rc n every f _ x hx
   rw [if_neg h0] at hx;cases hx
theorem VD(n every:Nat):∀x∈Bo n every,x.1≤x.2∧x.2≤n:=by
 intro x hx
 unfold Bo at hx
 by_cases h:every=0∨n=0
 ·rw [if_pos h] at hx;simp at hx;subst hx;dsimp only;omega
 rw [if_neg h] at hx;exact Rc n every n 0 x hx
theorem Oh(n every:Nat)(h:0<every):∀f at_,(Ec n every f at_).length≤n-at_
 | 0,_=>by simp [Ec]
 | f+1,at_=>by
   unfold Ec
   by_cases h0:at_<n
   ·rw [if_pos h0,List.length_cons]
    have:=Oh n every h f (at_+every)
    omega
   rw [if_neg h0];simp
theorem Re(n every:Nat):(Bo n every).length≤n+1:=by
 unfold Bo
 by_cases h:every=0∨n=0
 ·rw [if_pos h];simp
 rw [if_neg h]
 have:=Oh n every (by omega) n 0
 omega
def A9(l:List Int)(f t:Nat):List Int:=(l.drop (f*64)).take ((t-f)*64)
def Hv(C1 S1 C2 S2 l:List Int):List (Nat×Nat)→Nat→Int×List Int
 | [],_=>(0,[])
 | x::L,k=>if DO C1 S1 C2 S2 (A9 l x.1 x.2) (x.2-x.1)≠0 then (DO C1 S1 C2 S2 (A9 l x.1 x.2) (x.2-x.1),[]) else
   ((Hv C1 S1 C2 S2 l L (k+1)).1,(if k=0 then [] else [255,((208+(k-1)%8:Nat):Int)])++(EL C1 S1 C2 S2 (A9 l x.1 x.2) (x.2-x.1)++(Hv C1 S1 C2 S2 l L (k+1)).2))
def Gl(C1 S1 C2 S2 l:List Int)(n:Nat)(every:Int):Int×List Int:=
 if 0≤every∧every≤100 then if Eu C1 S1 C2 S2=0 then if Bm l n=0 then
  if (Hv C1 S1 C2 S2 l (Bo n every.toNat) 0).1=0 then Hv C1 S1 C2 S2 l (Bo n every.toNat) 0 else ((Hv C1 S1 C2 S2 l (Bo n every.toNat) 0).1,[])
 else (Bm l n,[]) else (Eu C1 S1 C2 S2,[]) else (1,[])
structure L6(p:Prop):Prop where
 out:p
theorem Hf(w0:World)(C1 C2 S1 S2:List Int)(a1 a2:Option Addr)(n1 n2 k1 k2:Nat)(hC1:Ae C1 16)(hC2:Ae C2 16)(hs1:Sl w0 1 (.slice a1 n1 k1) n1 (S1.map (Value.int .i64)))(hs2:Sl w0 1 (.slice a2 n2 k2) n2 (S2.map (Value.int .i64)))(hn1:n1≤9223372036854775807)(hn2:n2≤9223372036854775807)(ad:Option Addr)(n c:Nat)(l:List Int)(hn:n≤9223372036854775807)(hv:Sl w0 64 (.slice ad n c) n (l.map (Value.int .i64)))(every:Int):
 Calls Tryz.prog 42 #[.agg (AH [.ints C1, .val (.slice a1 n1 k1), .ints C2, .val (.slice a2 n2 k2)]).toArray, .slice ad n c, .int .i64 every] w0 (SK w0 (Gl C1 S1 C2 S2 l n every).1 (Gl C1 S1 C2 S2 l n every).2):=by
 have hl:l.length=n*64:=by have:=hv.1;simpa using this
 have hnc:n≤c:=by
  obtain ⟨_,a',c',e,h1,_⟩:=hv
  cases e;exact h1
 have HLl:=AD hl
 have hS:=St.start w0
 have hL1:=AD (EY C1 (.slice a1 n1 k1) hC1)
 have hL2:=AD (EY C2 (.slice a2 n2 k2) hC2)
 obtain ⟨E1,hE1⟩:∃x,A5 C1 S1=x:=⟨_,rfl⟩
 obtain ⟨E2,hE2⟩:∃x,A5 C2 S2=x:=⟨_,rfl⟩
 have HE1:=AD hE1
 have HE2:=AD hE2
 have HT:=AD (show Eu C1 S1 C2 S2=if E1=0 then E2 else E1 by unfold Eu;rw [hE1,hE2])
 clear hE1 hE2 hl
 by_cases hev:0≤every∧every≤100
 case neg=>
  have HP:=AD (show Gl C1 S1 C2 S2 l n every=(1,[]) by unfold Gl;rw [if_neg hev])
  have hbad:every<0∨100<every:=by omega
  clear hev
  rcases hbad with h|h
  all_goals
   go_enter Tryz.func42,Tryz.ntmps42
   repeat' (first
    | go_skip|((first|(with_reducible refine LJ ?_)|(with_reducible refine T9 ?_));(first|go_big_want|go_step);go_step)|((with_reducible refine Ak _ (.pick _ _ _) ?_);first|(refine BL rfl AA ?_;go_step)|(refine BB rfl AA ?_;go_step))|((refine AQ 20 ?_);(refine DL _ (V.lss rfl rfl) AA (fun hB=>?_) (fun hB=>?_)<;>(try exact AS)<;>go_step))|((with_reducible refine Ak _ (.binOp .gtr _ _ _ _) ?_);(refine Aq AA (V.gtr rfl rfl) ?_;go_step))|((refine AQ 3 ?_);(refine Ad ?_;apply Js (o:=⟨some 3,_,_,_,_,_⟩) hS 34 _ rfl _ rfl;clear hS;intro g3 w hS;refine AB ?_;go_step))|(refine AG ?_;go_step)|fail)
   all_goals (try exact AS)
   all_goals
    refine AO (xs:=[_,_]) rfl (.cons (AC.tmp rfl) (.cons (AC.tmp rfl) (.nil))) (by simp) rfl ?_
    exact FW 1 (by rw [HP.out]) (by rw [HP.out]) hS.1
 obtain ⟨Ev,rfl⟩:∃N:Nat,every=(N:Int):=⟨every.toNat,by omega⟩
 have HP:=AD (show Gl C1 S1 C2 S2 l n Ev=if Eu C1 S1 C2 S2=0 then if Bm l n=0 then if (Hv C1 S1 C2 S2 l (Bo n Ev) 0).1=0 then Hv C1 S1 C2 S2 l (Bo n Ev) 0 else ((Hv C1 S1 C2 S2 l (Bo n Ev) 0).1,[]) else (Bm l n,[]) else (Eu C1 S1 C2 S2,[]) by unfold Gl;rw [if_pos hev,Int.toNat_natCast])
 go_enter Tryz.func42,Tryz.ntmps42
 repeat' (first
  | refine X0 ?_|refine Gj ?_|refine FT 20 ?_ ?_<;>intro hB<;>(try exact AS)<;>go_step|refine II ?_|refine SN 3 ?_;clear hS;intro g3 w hS|refine AG ?_;go_step|fail)
 all_goals (try exact AS)
 repeat' (first
  | (refine AQ 29 ?_);refine Ad ?_;refine AU (o:=⟨some 29,_,_,_,_,_⟩) hS 115 2 _ rfl 32 17 152 OQ _ _ (AX.agg rfl hL1.out (AX.agg rfl hL2.out AX.nil)) rfl (by decide) (by decide) ?_;clear hS;intro g29 w hS;replace hS:=Jk hS;refine AB ?_;go_step|refine X1 ?_|refine ep ?_|refine ew ?_|refine Vh ?_|refine L8 ?_|refine AG ?_;go_step|fail)
 clear hL1 hL2
 go_loopg [31] 2 (fun gk kv w=>∃k:Nat,gk+k=2∧kv= .int .i64 k∧(1≤k→E1=0)∧(2≤k→E2=0)∧St w0 w [prt g3 [.ints C1, .val (.slice a1 n1 k1), .ints C2, .val (.slice a2 n2 k2)],prt g29 [.ints C1, .val (.slice a1 n1 k1), .ints C2, .val (.slice a2 n2 k2)]])
 case atStart=>exact ⟨0,rfl,rfl,fun h=>absurd h (by omega),fun h=>absurd h (by omega),hS.sub AV⟩
 case round=>
  clear hS
  obtain ⟨k,hk,rfl,HA,HB,hS⟩:=hrel
  by_cases hlt:k<2
  ·obtain rfl|rfl:k=0∨k=1:=by omega
   ·clear HA HB
    repeat' (first
     | (refine Am 73 ?_);refine An AA Tryz.call73 (Cv _ C1 S1 a1 n1 k1 hC1 (hs1.ext hS.1) hn1) ?_;rintro e w ⟨rfl,hE2⟩;rw [HE1.out];replace hS:=hS.ext hE2;clear hE2;refine Ab ?_;go_step|refine X0 ?_|refine X2 ?_|refine YH 33 ?_|refine X5 ?_|refine X6 ?_|refine L8 ?_|refine SM 9 ?_;clear hS;intro g9 w hS|refine SO ?_;clear hS;intro w hS|refine AG ?_;go_step|fail)
    ·have h9:Gl C1 S1 C2 S2 l n Ev=(E1,[]):=by rw [HP.out,HT.out,if_neg (show ¬E1=0 by omega),if_neg (by omega)]
     refine AO (xs:=[_,_]) rfl (.cons (AC.tmp rfl) (.cons (AC.tmp rfl) (.nil))) (by simp) rfl ?_
     exact FW E1 (by rw [h9]) (by rw [h9]) hS.1
    go_roundg (gk-1)
    case measure=>omega
    case rel=>exact ⟨1,by omega,rfl,fun _=>by omega,fun h=>absurd h (by omega),hS.sub AV⟩
   have h1:=HA (by omega)
   subst h1
   clear HA HB
   repeat' (first
    | (refine Am 73 ?_);refine An AA Tryz.call73 (Cv _ C2 S2 a2 n2 k2 hC2 (hs2.ext hS.1) hn2) ?_;rintro e w ⟨rfl,hE2⟩;rw [HE2.out];replace hS:=hS.ext hE2;clear hE2;refine Ab ?_;go_step|refine X0 ?_|refine X2 ?_|refine YH 33 ?_|refine X5 ?_|refine X6 ?_|refine L8 ?_|refine SM 9 ?_;clear hS;intro g9 w hS|refine SO ?_;clear hS;intro w hS|refine AG ?_;go_step|fail)
   ·have h9:Gl C1 S1 C2 S2 l n Ev=(E2,[]):=by rw [HP.out,HT.out,if_pos rfl,if_neg (by omega)]
    refine AO (xs:=[_,_]) rfl (.cons (AC.tmp rfl) (.cons (AC.tmp rfl) (.nil))) (by simp) rfl ?_
    exact FW E2 (by rw [h9]) (by rw [h9]) hS.1
   go_roundg (gk-1)
   case measure=>omega
   case rel=>exact ⟨2,by omega,rfl,fun _=>rfl,fun _=>by omega,hS.sub AV⟩
  obtain rfl:k=2:=by omega
  have h1:=HA (by omega)
  have h2:=HB (by omega)
  subst h1;subst h2
  clear HA HB
  have HP2:=AD (show Gl C1 S1 C2 S2 l n Ev=if Bm l n=0 then if (Hv C1 S1 C2 S2 l (Bo n Ev) 0).1=0 then Hv C1 S1 C2 S2 l (Bo n Ev) 0 else ((Hv C1 S1 C2 S2 l (Bo n Ev) 0).1,[]) else (Bm l n,[]) by rw [HP.out,HT.out,if_pos rfl,if_pos rfl])
  clear HP
  by_cases hbk:Bm l n=0
  case neg=>
   obtain ⟨E,hE⟩:∃E,Bm l n=E:=⟨_,rfl⟩
   have h0:E≠0:=by rw [←hE];exact hbk
   have HE:=AD hE
   have HP3:=AD (show Gl C1 S1 C2 S2 l n Ev=(E,[]) by rw [HP2.out,if_neg hbk,hE])
   clear hbk hE
   repeat' (first
    | refine X1 ?_|refine X2 ?_|refine AG ?_;go_step|fail)
   repeat' (first
    | (refine AQ 43 ?_);refine AL (f:=71) Tryz.call71 AA ?_;refine ⟨_,(Fo _ ad n c l hn (hv.ext hS.1)),?_⟩;rintro e w ⟨_,hq⟩;rw [HE.out] at hq;obtain ⟨rfl,hE2⟩:=hq h0;clear hq;replace hS:=hS.ext hE2;clear hE2;refine Ab ?_;go_step|refine X0 ?_|refine X7 ?_|refine X5 ?_|refine AG ?_;go_step|fail)
   all_goals (try exact AS)
   refine AO (xs:=[_,_]) rfl (.cons (AC.tmp rfl) (.cons (AC.tmp rfl) (.nil))) (by simp) rfl ?_
   exact FW E (by rw [HP3.out]) (by rw [HP3.out]) hS.1
  have HBK:=AD hbk
  have hn4:=I9 hbk
  obtain ⟨M,hM⟩:∃M,(Bo n Ev).length=M:=⟨_,rfl⟩
  have hM4:M≤401:=by rw [←hM];have:=Re n Ev;omega
  have HM:=AD hM
  obtain ⟨D,hD⟩:∃D,Hv C1 S1 C2 S2 l (Bo n Ev) 0=D:=⟨_,rfl⟩
  have HP3:=AD (show Gl C1 S1 C2 S2 l n Ev=if D.1=0 then D else (D.1,[]) by rw [HP2.out,if_pos hbk,hD])
  have HD:=AD hD
  clear hbk hD hM HP2
  repeat' (first
   | refine X1 ?_|refine X2 ?_|refine AG ?_;go_step|fail)
  repeat' (first
   | (refine AQ 43 ?_);refine AL (f:=71) Tryz.call71 AA ?_;refine ⟨_,(Fo _ ad n c l hn (hv.ext hS.1)),?_⟩;rintro e w ⟨hq,_⟩;obtain ⟨g1,g2,rfl,hS2⟩:=hq HBK.out;clear hq;replace hS:=hS.ext hS2.1;clear hS2;refine Ab ?_;go_step|refine X0 ?_|refine X7 ?_|refine X5 ?_|refine AG ?_;go_step|fail)
  all_goals (try exact AS)
  repeat' (first
   | (refine AQ 53 ?_);refine AL (f:=50) Tryz.call50 AA ?_;refine ⟨_,(F8 _ n Ev (by omega) (by omega)),?_⟩;rintro e w ⟨a3,c3,m3,hm3,rfl,hS2⟩;obtain rfl:M=m3:=(by rw [←hm3];exact HM.out.symm);clear hm3;replace hS:=hS.call1 hS2;clear hS2;refine Ab ?_;go_step|refine X1 ?_|refine YE ?_|refine Xo ?_|refine AG ?_;go_step|fail)
  replace hS:=hS.nilk 5 1 .u8
  clear hk
  go_loopg [14,55] M (fun gk ov kv w=>∃(k m:Nat) (acc:List Int) (ao:Option Addr) (co:Nat),gk+k=M∧kv= .int .i64 k∧ov= .slice ao m co∧m≤300002*k∧Hid (acc.length=m)∧L6 (D=((Hv C1 S1 C2 S2 l ((Bo n Ev).drop k) k).1,acc++(Hv C1 S1 C2 S2 l ((Bo n Ev).drop k) k).2))∧St w0 w [own 5 1 ao m co (acc.map (Value.int .u8)),prt g3 [.ints C1, .val (.slice a1 n1 k1), .ints C2, .val (.slice a2 n2 k2)],own 94 2 a3 M c3 ((TU (Bo n Ev)).map (Value.int .i64))])
  case atStart=>exact ⟨0,0,[],none,0,by omega,rfl,rfl,by omega,AD rfl,⟨by rw [←HD.out];rfl⟩,hS.sub AV⟩
  case round=>
   clear hS
   obtain ⟨k,m,acc,ao,co,hk,rfl,rfl,hm4,HQ,HV,hS⟩:=hrel
   by_cases hlt:k<M
   ·obtain ⟨⟨f,t⟩,hx⟩:∃x,(Bo n Ev)[k]? =some x:=⟨_,List.getElem?_eq_getElem (by rw [HM.out];exact hlt)⟩
    have hft:=VD n Ev _ (List.mem_of_getElem? hx)
    dsimp only at hft
    have hseg:=Lg (Bo n Ev) k _ hx
    dsimp only at hseg
    have hd1:(Bo n Ev).drop k=(f,t)::(Bo n Ev).drop (k+1):=by
     rw [List.drop_eq_getElem_cons (by rw [HM.out];exact hlt)]
     rw [List.getElem?_eq_getElem (by rw [HM.out];exact hlt)] at hx
     rw [Option.some.inj hx]
    obtain ⟨E,hE⟩:∃E,DO C1 S1 C2 S2 (A9 l f t) (t-f)=E:=⟨_,rfl⟩
    obtain ⟨B,hB⟩:∃B,EL C1 S1 C2 S2 (A9 l f t) (t-f)=B:=⟨_,rfl⟩
    have hsl:(A9 l f t).length=(t-f)*64:=by
     unfold A9
     rw [List.length_take,List.length_drop,HLl.out]
     have h1:(t-f)*64≤n*64-f*64:=by rw [←Nat.sub_mul];exact Nat.mul_le_mul_right 64 (by omega)
     omega
    have hBl:B.length≤300000:=by
     by_cases h:DO C1 S1 C2 S2 (A9 l f t) (t-f)=0
     ·obtain ⟨_,_,_,h3⟩:=aD hsl h;rw [←hB];exact h3
     rw [←hB,aC h];simp
    have hcc:=hv.cutAt f t hft.1 hft.2
    rw [show ((l.map (Value.int .i64)).drop (f*64)).take ((t-f)*64)=(A9 l f t).map (Value.int .i64) by unfold A9;simp] at hcc
    have hstep:L6 (Hv C1 S1 C2 S2 l ((Bo n Ev).drop k) k=if E≠0 then (E,[]) else ((Hv C1 S1 C2 S2 l ((Bo n Ev).drop (k+1)) (k+1)).1,(if k=0 then [] else [255,((208+(k-1)%8:Nat):Int)])++(B++(Hv C1 S1 C2 S2 l ((Bo n Ev).drop (k+1)) (k+1)).2))):=⟨by rw [hd1,Hv];simp only [hE,hB]⟩
    have HE:=AD hE
    have HB:=AD hB
    obtain ⟨mB,hmB⟩:∃x,B.length=x:=⟨_,rfl⟩
    rw [hmB] at hBl
    have HMB:=AD hmB
    obtain ⟨g5,rfl⟩:=Cb (a:=a3) hS AM (by omega)
    clear hx hd1 hE hB hsl hmB
    by_cases hk0:k=0
    ·obtain ⟨acc1,hA1⟩:∃a,acc++(if k=0 then [] else [255,((208+(k-1)%8:Nat):Int)])=a:=⟨_,rfl⟩
     have hA2:acc=acc1:=by rw [←hA1,if_pos hk0,List.append_nil]
     have HA1:=AD hA1
     have HL1:=AD (show acc1.length=m by rw [←hA2];exact HQ.out)
     repeat' (first
      | refine X0 ?_|refine X2 ?_|refine cP 58 ?_|refine II ?_|refine cF ?_|refine bn 16 ?_;clear hS;intro g16 w hS|refine b9 ?_;clear hS;intro w hS|refine AG ?_;go_step|fail)
     all_goals (try exact AS)
     replace hS:St w0 w [blk g16 [.int .i64 (f:Nat), .int .i64 (t:Nat)],own 5 1 ao m co (acc.map (Value.int .u8)),prt g3 [.ints C1, .val (.slice a1 n1 k1), .ints C2, .val (.slice a2 n2 k2)],own 94 2 (some ⟨g5,0,none⟩) M c3 ((TU (Bo n Ev)).map (Value.int .i64))]:=hS
     rw [hA2] at hS
     clear hA1 hA2
     refine AP [7] (fun w=>St w0 w [prt g3 [.ints C1, .val (.slice a1 n1 k1), .ints C2, .val (.slice a2 n2 k2)],blk g16 [.int .i64 (f:Nat), .int .i64 (t:Nat)]]) AA ?_
     replace hS:=hS.drew
     focus
      refine jx 0 [7,8,9,10,11,12] ?_
      refine AY 1 ?_
      refine CA 2 BZ (V.fieldAddr PM rfl BT) ?_;go_step
      refine Y5 3 [6,7,8,9,10,11,12] ?_
      refine CA 4 BZ (V.fieldAddr PN rfl BT) ?_;go_step
      refine Y5 5 [6,7,8,9,10,11,12] ?_
      refine kg 6 ?_
      refine Ao 7 ?_
      refine AR (f:=75) rfl Tryz.call75 (IT _ C1 C2 S1 S2 a1 a2 n1 n2 k1 k2 hC1 hC2 (hs1.ext hS.1) (hs2.ext hS.1) hn1 hn2 (cutAt ad c f 64) (t-f) (c-f) (A9 l f t) (by omega) (hcc.ext hS.1)) ?_;rintro e w ⟨ap,cp,mp,hmp,rfl,hS2⟩;rw [HB.out] at hS2;rw [HB.out,HMB.out] at hmp;subst hmp;rw [HE.out];replace hS:=hS.call1 hS2;clear hS2;refine ⟨_,rfl,?_⟩
      refine ⟨fun h=>absurd (by decide) h,?_⟩
      refine AI ?_
      go_step
      refine AY 8 ?_
      refine Y1 9 ?_
      refine Y1 10 ?_
      refine AY 11 ?_
      refine AY 12 ?_
      refine AE AA ?_ _
     all_goals
      repeat' (first|(refine AG ?_;go_step)|fail)
      by_cases hE0:E=0
      case neg=>
       have hD1:L6 (D=(E,acc)):=⟨by rw [HV.out,hstep.out,if_pos hE0];simp⟩
       have HS1:=AD (show Gl C1 S1 C2 S2 l n Ev=(E,[]) by rw [HP3.out,hD1.out,if_neg hE0])
       clear HV hstep hD1
       repeat' (first
        | refine X0 ?_|refine X5 ?_|refine AG ?_;go_step|fail)
       all_goals (try exact AS)
       refine AO (xs:=[_,_]) rfl (.cons (AC.tmp rfl) (.cons (AC.tmp rfl) (.nil))) (by simp) rfl ?_
       exact FW E (by rw [HS1.out]) (by rw [HS1.out]) hS.1
      have hD2:Hv C1 S1 C2 S2 l ((Bo n Ev).drop k) k=((Hv C1 S1 C2 S2 l ((Bo n Ev).drop (k+1)) (k+1)).1,(if k=0 then [] else [255,((208+(k-1)%8:Nat):Int)])++(B++(Hv C1 S1 C2 S2 l ((Bo n Ev).drop (k+1)) (k+1)).2)):=by rw [hstep.out,if_neg (by simpa using hE0)]
      have HV2:L6 (D=((Hv C1 S1 C2 S2 l ((Bo n Ev).drop (k+1)) (k+1)).1,(acc1++B)++(Hv C1 S1 C2 S2 l ((Bo n Ev).drop (k+1)) (k+1)).2)):=⟨by rw [HV.out,hD2,←HA1.out,List.append_assoc,List.append_assoc]⟩
      clear HV hstep hD2
      subst hE0
      repeat' (first
       | refine X1 ?_|refine X5 ?_|refine AG ?_;go_step|fail)
      all_goals (try exact AS)
      repeat' (first
       | refine X0 ?_|refine X6 ?_|refine cU 85 ?_;clear hS;intro ad85 c85 w hS|refine AG ?_;go_step|fail)
      go_roundg (gk-1)
      case measure=>omega
      case rel=>exact ⟨k+1,_,acc1++B,_,_,by omega,by go_num,rfl,by omega,AD (by rw [List.length_append,HL1.out,HMB.out]),HV2,hS.sub AV⟩
    obtain ⟨r,hr⟩:∃r,208+(k-1)%8=r:=⟨_,rfl⟩
    have HR:=AD hr
    obtain ⟨acc1,hA1⟩:∃a,acc++(if k=0 then [] else [255,((208+(k-1)%8:Nat):Int)])=a:=⟨_,rfl⟩
    have hA2:acc++[255,(r:Int)]=acc1:=by rw [←hA1,if_neg hk0,hr]
    have HA1:=AD hA1
    have HL1:=AD (show acc1.length=m+2 by rw [←hA2,List.length_append,HQ.out];rfl)
    clear hA1
    repeat' (first
     | (refine AQ 64 ?_);(refine Af (.int _ (((k-1:Nat):Int))) (V.as (V.subI rfl rfl (by omega)) (by omega)) (by kernel_rfl) ?_;go_step)|(refine AQ 65 ?_);refine AL (f:=74) Tryz.call74 AA ?_;refine ⟨_,(Md _ (k-1) (by omega)),?_⟩;rintro e w ⟨rfl,hE2⟩;rw [HR.out];replace hS:=hS.ext hE2;clear hE2;refine Ab ?_;go_step|refine X0 ?_|refine X2 ?_|refine cP 58 ?_|refine II ?_|refine Xp ?_|refine cF ?_|refine bn 16 ?_;clear hS;intro g16 w hS|refine b9 ?_;clear hS;intro w hS|refine jH 67 ?_;clear hS;intro g67 w hS|refine cU 68 ?_;clear hS;intro ad68 c68 w hS|refine AG ?_;go_step|fail)
    all_goals (try exact AS)
    replace hS:St w0 w [own 5 1 ad68 (m+2) c68 ((acc++[255,(r:Int)]).map (Value.int .u8)),blk g16 [.int .i64 (f:Nat), .int .i64 (t:Nat)],prt g3 [.ints C1, .val (.slice a1 n1 k1), .ints C2, .val (.slice a2 n2 k2)],own 94 2 (some ⟨g5,0,none⟩) M c3 ((TU (Bo n Ev)).map (Value.int .i64))]:=by
     have h9:St w0 w (_::_::blk g16 [.int .i64 (f:Nat), .int .i64 (t:Nat)]::_):=hS
     exact h9.sub AV
    rw [hA2] at hS
    clear hA2
    refine AP [7] (fun w=>St w0 w [prt g3 [.ints C1, .val (.slice a1 n1 k1), .ints C2, .val (.slice a2 n2 k2)],blk g16 [.int .i64 (f:Nat), .int .i64 (t:Nat)]]) AA ?_
    replace hS:=hS.drew
    focus
     refine jx 0 [7,8,9,10,11,12] ?_
     refine AY 1 ?_
     refine CA 2 BZ (V.fieldAddr PM rfl BT) ?_;go_step
     refine Y5 3 [6,7,8,9,10,11,12] ?_
     refine CA 4 BZ (V.fieldAddr PN rfl BT) ?_;go_step
     refine Y5 5 [6,7,8,9,10,11,12] ?_
     refine kg 6 ?_
     refine Ao 7 ?_
     refine AR (f:=75) rfl Tryz.call75 (IT _ C1 C2 S1 S2 a1 a2 n1 n2 k1 k2 hC1 hC2 (hs1.ext hS.1) (hs2.ext hS.1) hn1 hn2 (cutAt ad c f 64) (t-f) (c-f) (A9 l f t) (by omega) (hcc.ext hS.1)) ?_;rintro e w ⟨ap,cp,mp,hmp,rfl,hS2⟩;rw [HB.out] at hS2;rw [HB.out,HMB.out] at hmp;subst hmp;rw [HE.out];replace hS:=hS.call1 hS2;clear hS2;refine ⟨_,rfl,?_⟩
     refine ⟨fun h=>absurd (by decide) h,?_⟩
     refine AI ?_
     go_step
     refine AY 8 ?_
     refine Y1 9 ?_
     refine Y1 10 ?_
     refine AY 11 ?_
     refine AY 12 ?_
     refine AE AA ?_ _
    all_goals
     repeat' (first|(refine AG ?_;go_step)|fail)
     by_cases hE0:E=0
     case neg=>
      have hD1:L6 (D=(E,acc)):=⟨by rw [HV.out,hstep.out,if_pos hE0];simp⟩
      have HS1:=AD (show Gl C1 S1 C2 S2 l n Ev=(E,[]) by rw [HP3.out,hD1.out,if_neg hE0])
      clear HV hstep hD1
      repeat' (first
       | refine X0 ?_|refine X5 ?_|refine AG ?_;go_step|fail)
      all_goals (try exact AS)
      refine AO (xs:=[_,_]) rfl (.cons (AC.tmp rfl) (.cons (AC.tmp rfl) (.nil))) (by simp) rfl ?_
      exact FW E (by rw [HS1.out]) (by rw [HS1.out]) hS.1
     have hD2:Hv C1 S1 C2 S2 l ((Bo n Ev).drop k) k=((Hv C1 S1 C2 S2 l ((Bo n Ev).drop (k+1)) (k+1)).1,(if k=0 then [] else [255,((208+(k-1)%8:Nat):Int)])++(B++(Hv C1 S1 C2 S2 l ((Bo n Ev).drop (k+1)) (k+1)).2)):=by rw [hstep.out,if_neg (by simpa using hE0)]
     have HV2:L6 (D=((Hv C1 S1 C2 S2 l ((Bo n Ev).drop (k+1)) (k+1)).1,(acc1++B)++(Hv C1 S1 C2 S2 l ((Bo n Ev).drop (k+1)) (k+1)).2)):=⟨by rw [HV.out,hD2,←HA1.out,List.append_assoc,List.append_assoc]⟩
     clear HV hstep hD2
     subst hE0
     repeat' (first
      | refine X1 ?_|refine X5 ?_|refine AG ?_;go_step|fail)
     all_goals (try exact AS)
     repeat' (first
      | refine X0 ?_|refine X6 ?_|refine cU 85 ?_;clear hS;intro ad85 c85 w hS|refine AG ?_;go_step|fail)
     go_roundg (gk-1)
     case measure=>omega
     case rel=>exact ⟨k+1,_,acc1++B,_,_,by omega,by go_num,rfl,by omega,AD (by rw [List.length_append,HL1.out,HMB.out]),HV2,hS.sub AV⟩
   obtain rfl:k=M:=by omega
   have hD0:L6 (D=(0,acc)):=⟨by rw [HV.out,List.drop_of_length_le (by rw [HM.out];omega),Hv,List.append_nil]⟩
   have HS1:=AD (show Gl C1 S1 C2 S2 l n Ev=(0,acc) by rw [HP3.out,hD0.out,if_pos rfl])
   clear HV
   repeat' (first
    | refine X0 ?_|refine X2 ?_|refine AG ?_;go_step|fail)
   all_goals (try exact AS)
   repeat' (first
    | refine AG ?_;go_step|fail)
   refine AO (xs:=[_,_]) rfl (.cons (AC.tmp rfl) (.cons (AC.tmp rfl) (.nil))) (by simp) rfl ?_
   exact ⟨ao,co,m,by rw [HS1.out];exact HQ.out,by rw [HS1.out];rfl,by rw [HS1.out];exact hS.sub AV⟩
theorem Sm(n:Int)(w:World):Calls Tryz.prog 16 #[.int .i64 n] w fun e w'=>e= .returned (.int .i64 (n%101))∧w=w':=by
 go_enter Tryz.func16,Tryz.ntmps16
 repeat' (first
  | (refine Am 28 ?_);refine An AA Tryz.call28 (Cu n 101 _ (by omega) (by omega)) ?_;rintro e w' ⟨rfl,rfl⟩;refine Ab ?_;go_step|refine X0 ?_|refine AG ?_;go_step|fail)
 go_ret
 exact ⟨rfl,rfl⟩
theorem aF{l:List Int}{q k:Nat}(h:k<q):BY (l.take (q*64)) 64 k=BY l 64 k:=by
 unfold BY
 rw [List.drop_take,List.take_take,Nat.min_eq_left (by omega)]
theorem UK{A X:List Int}{s:Nat}(h:s<256):AF (DP A) s+AF (DP X) s=AF (DP (A++X)) s:=by
 rw [Eo _ h,Eo _ h,Eo _ h,List.count_append];push_cast;rfl
theorem Fw{W w w':World}{rs:List Au}{r s:Au}(h:St W w rs)(h':St w w' [r,s]):St W w' (r::s::rs):=h.call h'
end Go.Proofs.YtohacgmhmbijmaaGreatDoor
namespace Go.Proofs.YtohacgmhmbijmaaGreatDoor
attribute [local irreducible] Region.wanted
set_option linter.unusedVariables false
set_option maxRecDepth 100000
set_option maxHeartbeats 8000000
section
variable{α:Type}[Inhabited α]
def Ap(l:List α)(i:Nat):α:=l.getD i default
theorem PA(l:List α)(i j:Nat)(z:α)(h:i<l.length):Ap (l.set i z) j=if i=j then z else Ap l j:=by
 unfold Ap
 simp only [List.getD_eq_getElem?_getD,List.getElem?_set]
 split
 ·simp
 rfl
theorem CJ(l m:List α)(i:Nat)(h:i<l.length):Ap (l++m) i=Ap l i:=by simp [Ap,List.getElem?_append_left h]
theorem BD(l m:List α)(i:Nat)(h:l.length≤i):Ap (l++m) i=Ap m (i-l.length):=by simp [Ap,List.getElem?_append_right h]
theorem dO{l:List α}{i:Nat}(h:i<l.length):Ap l i∈l:=by simp [Ap,h]
theorem Si{l:List α}{x:α}(h:x∈l):∃i,i<l.length∧Ap l i=x:=by
 obtain ⟨i,hi,e⟩:=List.getElem_of_mem h
 exact ⟨i,hi,by simp [Ap,hi,e]⟩
theorem LW{l m:List α}(h:l.length=m.length)(k:∀i,i<l.length→Ap l i=Ap m i):l=m:=by
 apply List.ext_getElem h
 intro i h1 h2
 have:=k i h1
 simpa [Ap,h1,h2] using this
theorem DU(l:List α)(n i:Nat)(h:i<n):Ap (l.take n) i=Ap l i:=by simp [Ap,h]
theorem DT(l:List α)(n i:Nat):Ap (l.drop n) i=Ap l (n+i):=by simp [Ap]
structure Rg(a b:Nat)(P P':List α):Prop where
 len:P'.length=P.length
 out:∀x,x<a∨b≤x→Ap P' x=Ap P x
 perm:((P'.drop a).take (b-a)).Perm ((P.drop a).take (b-a))
theorem Rg.refl(a b:Nat)(P:List α):Rg a b P P:=⟨rfl,fun _ _=>rfl,List.Perm.refl _⟩
theorem Rg.trans{a b:Nat}{P Q R:List α}(h:Rg a b P Q)(k:Rg a b Q R):Rg a b P R:=
 ⟨k.len.trans h.len,fun x hx=>(k.out x hx).trans (h.out x hx),k.perm.trans h.perm⟩
theorem Rg.from{a b:Nat}{P P':List α}(h:Rg a b P P')(hb:b≤P.length){x:Nat}(h1:a≤x)(h2:x<b):∃y,a≤y∧y<b∧Ap P' x=Ap P y:=by
 have hl:=h.len
 have e:Ap P' x=Ap ((P'.drop a).take (b-a)) (x-a):=by rw [DU _ _ _ (by omega),DT];congr 1;omega
 have hm:Ap P' x∈(P'.drop a).take (b-a):=by rw [e];exact dO (by simp;omega)
 obtain ⟨i,hi,e2⟩:=Si (h.perm.mem_iff.1 hm)
 simp at hi
 exact ⟨a+i,by omega,by omega,by rw [←e2,DU _ _ _ (by omega),DT]⟩
theorem Rg.wide{a b c d:Nat}{P P':List α}(h:Rg a b P P')(hca:c≤a)(hbd:b≤d)(hab:a≤b)(hd:b≤P.length):Rg c d P P':=by
 refine ⟨h.len,fun x hx=>h.out x (by omega),?_⟩
 have cut:∀Q:List α,(Q.drop c).take (d-c)=(Q.drop c).take (a-c)++((Q.drop a).take (b-a)++(Q.drop b).take (d-b)):=fun Q=>by
  have e1:d-c=(a-c)+((b-a)+(d-b)):=by omega
  rw [e1,List.take_add,List.take_add,List.drop_drop,List.drop_drop]
  congr 4<;>omega
 have hl:=h.len
 rw [cut,cut]
 have e1:(P'.drop c).take (a-c)=(P.drop c).take (a-c):=LW (by simp [hl]) fun i hi=>by
  simp at hi;rw [DU _ _ _ (by omega),DU _ _ _ (by omega),DT,DT,h.out _ (by omega)]
 have e2:(P'.drop b).take (d-b)=(P.drop b).take (d-b):=LW (by simp [hl]) fun i hi=>by
  simp at hi;rw [DU _ _ _ (by omega),DU _ _ _ (by omega),DT,DT,h.out _ (by omega)]
 rw [e1,e2]
 exact List.Perm.append_left _ (List.Perm.append_right _ h.perm)
theorem Rg.all{P P':List α}(h:Rg 0 P.length P P'):P'.Perm P:=by
 have:=h.perm
 simp only [List.drop_zero,Nat.sub_zero,List.take_length] at this
 rwa [←h.len,List.take_length] at this
def SG(P:List α)(i j:Nat):List α:=(P.set i (Ap P j)).set j (Ap P i)
theorem H8(P:List α)(i j:Nat):(SG P i j).length=P.length:=by simp [SG]
theorem Hu(P:List α)(i j x:Nat)(hi:i<P.length)(hj:j<P.length):Ap (SG P i j) x=if j=x then Ap P i else if i=x then Ap P j else Ap P x:=by
 unfold SG
 rw [PA _ _ _ _ (by simpa using hj),PA _ _ _ _ hi]
theorem Rb(l:List α)(i:Nat)(z:α)(h:i<l.length):(Ap l i::l.set i z).Perm (z::l):=by
 induction l generalizing i with
 | nil=>simp at h
 | cons a l ih=>
   cases i with
   | zero=>simp only [Ap,List.getD_cons_zero,List.set_cons_zero];exact List.Perm.swap _ _ _
   | succ i=>
     have:=ih i (by simpa using h)
     simp only [List.set_cons_succ]
     have e:Ap (a::l) (i+1)=Ap l i:=by simp [Ap]
     rw [e]
     exact (List.Perm.swap _ _ _).trans ((this.cons a).trans (List.Perm.swap _ _ _))
theorem aU(P:List α)(i j:Nat)(hi:i<P.length)(hj:j<P.length):(SG P i j).Perm P:=by
 unfold SG
 have h1:=Rb (P.set i (Ap P j)) j (Ap P i) (by simpa using hj)
 have h2:=Rb P i (Ap P j) hi
 rw [PA _ _ _ _ hi] at h1
 have e:(if i=j then Ap P j else Ap P j)=Ap P j:=by split<;>rfl
 rw [e] at h1
 exact (h1.trans h2).cons_inv
theorem Pu(P:List α)(a b i j:Nat)(hi:a≤i)(hib:i<b)(hj:a≤j)(hjb:j<b)(hb:b≤P.length):Rg a b P (SG P i j):=by
 refine ⟨H8 P i j,fun x hx=>by rw [Hu _ _ _ _ (by omega) (by omega),if_neg (by omega),if_neg (by omega)],?_⟩
 have e:((SG P i j).drop a).take (b-a)=SG ((P.drop a).take (b-a)) (i-a) (j-a):=by
  refine LW (by simp [H8]) fun x hx=>?_
  simp [H8] at hx
  rw [DU _ _ _ (by omega),DT,Hu _ _ _ _ (by omega) (by omega),Hu _ _ _ _ (by simp;omega) (by simp;omega),DU _ _ (i-a) (by omega),DU _ _ (j-a) (by omega),DU _ _ x (by omega),DT,DT,DT]
  rw [show a+(i-a)=i by omega,show a+(j-a)=j by omega]
  by_cases h1:j=a+x
  ·rw [if_pos h1,if_pos (show j-a=x by omega)]
  rw [if_neg h1,if_neg (show ¬j-a=x by omega)]
  by_cases h2:i=a+x
  ·rw [if_pos h2,if_pos (show i-a=x by omega)]
  rw [if_neg h2,if_neg (show ¬i-a=x by omega)]
 rw [e]
 exact aU _ _ _ (by simp;omega) (by simp;omega)
variable(key:α→Int)
def El(lo hi:Nat)(P:List α):Prop:=∀i j,lo≤i→i≤j→j<hi→key (Ap P i)≤key (Ap P j)
variable{key}
theorem El.same{lo hi:Nat}{P Q:List α}(h:El key lo hi P)(e:∀x,lo≤x→x<hi→Ap Q x=Ap P x):El key lo hi Q:=fun i j h1 h2 h3=>by
 rw [e i h1 (by omega),e j (by omega) h3];exact h i j h1 h2 h3
theorem El.sub{lo hi lo' hi':Nat}{P:List α}(h:El key lo hi P)(h1:lo≤lo')(h2:hi'≤hi):El key lo' hi' P:=fun i j k1 k2 k3=>h i j (by omega) k2 (by omega)
theorem El.pair{P:List α}(h:El key 0 P.length P):P.Pairwise (fun a b=>key a≤key b):=by
 rw [List.pairwise_iff_getElem]
 intro i j hi hj hij
 have:=h i j (by omega) (by omega) hj
 simpa [Ap,hi,hj] using this
theorem Z4(A U V B:List α)(x:Nat):Ap (A++(V++(U++B))) x=if x<A.length then Ap (A++(U++(V++B))) x else if x<A.length+V.length then Ap (A++(U++(V++B))) (x+U.length) else if x<A.length+V.length+U.length then Ap (A++(U++(V++B))) (x-V.length) else Ap (A++(U++(V++B))) x:=by
 by_cases h1:x<A.length
 ·rw [if_pos h1,CJ _ _ _ h1,CJ _ _ _ h1]
 rw [if_neg h1,BD _ _ _ (by omega)]
 by_cases h2:x<A.length+V.length
 ·rw [if_pos h2,CJ _ _ _ (by omega),BD A _ _ (by omega),BD U _ _ (by omega),CJ V _ _ (by omega)];congr 1;omega
 rw [if_neg h2,BD _ _ _ (by omega)]
 by_cases h3:x<A.length+V.length+U.length
 ·rw [if_pos h3,CJ _ _ _ (by omega),BD A _ _ (by omega),CJ U _ _ (by omega)];congr 1;omega
 rw [if_neg h3,BD U _ _ (by omega),BD A _ _ (by omega),BD U _ _ (by omega),BD V _ _ (by omega)];congr 1;omega
def QF(a m b:Nat)(P P':List α):Prop:=∃A U V B,P=A++(U++(V++B))∧P'=A++(V++(U++B))∧A.length=a∧U.length=m-a∧V.length=b-m
theorem QF.rg{a m b:Nat}{P P':List α}(h:QF a m b P P')(h1:a≤m)(h2:m≤b):Rg a b P P':=by
 obtain ⟨A,U,V,B,rfl,rfl,rfl,hu,hv⟩:=h
 refine ⟨by simp;omega,fun x hx=>?_,?_⟩
 ·rw [Z4]
  rcases hx with hx|hx
  ·rw [if_pos hx]
  rw [if_neg (by omega),if_neg (by omega),if_neg (by omega)]
 rw [List.drop_left' rfl,List.drop_left' rfl,←List.append_assoc,←List.append_assoc,List.take_left' (by simp;omega),List.take_left' (by simp;omega)]
 exact List.perm_append_comm
theorem QF.at{a m b:Nat}{P P':List α}(h:QF a m b P P')(h1:a≤m)(h2:m≤b)(x:Nat):Ap P' x=if x<a then Ap P x else if x<a+(b-m) then Ap P (x+(m-a)) else if x<b then Ap P (x-(b-m)) else Ap P x:=by
 obtain ⟨A,U,V,B,rfl,rfl,rfl,hu,hv⟩:=h
 rw [Z4,hu,hv]
 rw [show A.length+(b-m)+(m-A.length)=b by omega]
theorem QF.triv{β:Type}{a m b:Nat}{P:List β}(h1:a≤m)(h2:m≤b)(hb:b≤P.length)(h:m=a∨m=b):QF a m b P P:=by
 refine ⟨P.take a,(P.drop a).take (m-a),(P.drop m).take (b-m),P.drop b,?_,?_,by simp;omega,by simp;omega,by simp;omega⟩
 ·have e1:(P.drop m).take (b-m)++P.drop b=P.drop m:=by
   have:=List.take_append_drop (b-m) (P.drop m)
   rw [List.drop_drop,show m+(b-m)=b by omega] at this;exact this
  have e2:(P.drop a).take (m-a)++P.drop m=P.drop a:=by
   have:=List.take_append_drop (m-a) (P.drop a)
   rw [List.drop_drop,show a+(m-a)=m by omega] at this;exact this
  rw [e1,e2,List.take_append_drop]
 rcases h with rfl|rfl
 ·rw [Nat.sub_self,List.take_zero,List.nil_append]
  have e1:(P.drop m).take (b-m)++P.drop b=P.drop m:=by
   have:=List.take_append_drop (b-m) (P.drop m)
   rw [List.drop_drop,show m+(b-m)=b by omega] at this;exact this
  rw [e1,List.take_append_drop]
 rw [Nat.sub_self,List.take_zero,List.nil_append]
 have e2:(P.drop a).take (m-a)++P.drop m=P.drop a:=by
  have:=List.take_append_drop (m-a) (P.drop a)
  rw [List.drop_drop,show a+(m-a)=m by omega] at this;exact this
 rw [e2,List.take_append_drop]
theorem IA{a m b mid st en:Nat}{P Q:List α}(h1:El key a m P)(h2:El key m b P)(ham:a<m)(hmb:m<b)(hmid:mid=(a+b)/2)(hen:en=mid+m-st)(hs1:a≤st)(hs2:st≤m)(hs3:st≤mid)(he1:m≤en)(he2:en≤b)
 (hlo:a<st→m≤en→en<b→key (Ap P (st-1))≤key (Ap P en)) (hhi:m<en→st<m→key (Ap P (en-1))≤key (Ap P st)) (hr:QF st m en P Q):
 El key a st Q∧El key st mid Q∧El key mid en Q∧El key en b Q∧∀x y,a≤x→x<mid→mid≤y→y<b→key (Ap Q x)≤key (Ap Q y):=by
 have ha:=hr.at hs2 he1
 have em:st+(en-m)=mid:=by omega
 rw [em] at ha
 have hA:∀x,x<st→Ap Q x=Ap P x:=fun x h=>by rw [ha,if_pos h]
 have hB:∀x,st≤x→x<mid→Ap Q x=Ap P (x+(m-st)):=fun x h h'=>by rw [ha,if_neg (by omega),if_pos h']
 have hC:∀x,mid≤x→x<en→Ap Q x=Ap P (x-(en-m)):=fun x h h'=>by rw [ha,if_neg (by omega),if_neg (by omega),if_pos h']
 have hD:∀x,en≤x→Ap Q x=Ap P x:=fun x h=>by rw [ha,if_neg (by omega),if_neg (by omega),if_neg (by omega)]
 clear ha hr
 refine ⟨h1.sub (Nat.le_refl _) hs2 |>.same fun x _ hx=>hA x hx,?_,?_,h2.sub he1 (Nat.le_refl _) |>.same fun x hx _=>hD x hx,?_⟩
 ·intro i j k1 k2 k3
  rw [hB i k1 (by omega),hB j (by omega) k3]
  exact h2 _ _ (by omega) (by omega) (by omega)
 ·intro i j k1 k2 k3
  rw [hC i k1 (by omega),hC j (by omega) k3]
  exact h1 _ _ (by omega) (by omega) (by omega)
 intro x y k1 k2 k3 k4
 by_cases c1:x<st
 ·rw [hA x c1]
  by_cases c2:y<en
  ·rw [hC y k3 c2];exact h1 _ _ (by omega) (by omega) (by omega)
  rw [hD y (by omega)]
  have t1:=h1 x (st-1) k1 (by omega) (by omega)
  have t2:=hlo (by omega) he1 (by omega)
  have t3:=h2 en y he1 (by omega) k4
  omega
 rw [hB x (by omega) k2]
 by_cases c2:y<en
 ·rw [hC y k3 c2]
  have t1:=h2 (x+(m-st)) (en-1) (by omega) (by omega) (by omega)
  have t2:=hhi (by omega) (by omega)
  have t3:=h1 st (y-(en-m)) hs1 (by omega) (by omega)
  omega
 rw [hD y (by omega)];exact h2 _ _ (by omega) (by omega) (by omega)
theorem B4{a mid b:Nat}{Q R S:List α}(h1:a≤mid)(h2:mid≤b)(hb:b≤Q.length)(hx:∀x y,a≤x→x<mid→mid≤y→y<b→key (Ap Q x)≤key (Ap Q y))(r1:Rg a mid Q R)(r2:Rg mid b R S)(s1:El key a mid R)(s2:El key mid b S):El key a b S∧Rg a b Q S:=by
 refine ⟨fun i j k1 k2 k3=>?_,(r1.wide (Nat.le_refl _) h2 h1 (by omega)).trans (r2.wide h1 (Nat.le_refl _) h2 (by rw [r1.len];omega))⟩
 by_cases c1:j<mid
 ·rw [r2.out i (by omega),r2.out j (by omega)];exact s1 i j k1 k2 c1
 by_cases c2:i<mid
 ·obtain ⟨x,x1,x2,ex⟩:=r1.from (by omega) k1 c2
  obtain ⟨y,y1,y2,ey⟩:=r2.from (by rw [r1.len];omega) (show mid≤j by omega) k3
  rw [r2.out i (by omega),ex,ey,r1.out y (by omega)]
  exact hx x y x1 x2 y1 y2
 exact s2 i j (by omega) k2 k3
theorem dZ{lo i p:Nat}{P Q:List α}(h1:El key lo i P)(hp1:lo≤p)(hp2:p≤i)(e1:∀x,x<p→Ap Q x=Ap P x)(e2:Ap Q p=Ap P i)(e3:∀x,p<x→x≤i→Ap Q x=Ap P (x-1))
 (hlo:lo<p→key (Ap P (p-1))≤key (Ap P i)) (hhi:p<i→key (Ap P i)≤key (Ap P p)):El key lo (i+1) Q:=by
 intro x y k1 k2 k3
 by_cases c1:x<p
 ·rw [e1 x c1]
  by_cases c2:y<p
  ·rw [e1 y c2];exact h1 x y k1 k2 (by omega)
  by_cases c3:y=p
  ·rw [c3,e2];have:=h1 x (p-1) k1 (by omega) (by omega);have:=hlo (by omega);omega
  rw [e3 y (by omega) (by omega)];exact h1 x (y-1) k1 (by omega) (by omega)
 by_cases c2:x=p
 ·rw [c2,e2]
  by_cases c3:y=p
  ·rw [c3,e2];exact Int.le_refl _
  rw [e3 y (by omega) (by omega)]
  have:=h1 p (y-1) (by omega) (by omega) (by omega);have:=hhi (by omega);omega
 rw [e3 x (by omega) (by omega),e3 y (by omega) (by omega)]
 exact h1 (x-1) (y-1) (by omega) (by omega) (by omega)
end
section
variable{α:Type}[Inhabited α]{key:α→Int}
structure Dn(i j:Nat)(P Q:List α):Prop where
 len:Q.length=P.length
 lo:∀x,x<j→Ap Q x=Ap P x
 eq:Ap Q j=Ap P i
 mid:∀x,j<x→x≤i→Ap Q x=Ap P (x-1)
 hi:∀x,i<x→Ap Q x=Ap P x
theorem Dn.refl(i:Nat)(P:List α):Dn i i P P:=⟨rfl,fun _ _=>rfl,rfl,fun x h1 h2=>by omega,fun _ _=>rfl⟩
theorem Dn.step{i j:Nat}{P Q:List α}(h:Dn i j P Q)(h1:0<j)(h2:j≤i)(h3:i<P.length):Dn i (j-1) P (SG Q j (j-1)):=by
 have hl:=h.len
 have e:=fun x=>Hu Q j (j-1) x (by omega) (by omega)
 refine ⟨by rw [H8,hl],fun x hx=>?_,?_,fun x k1 k2=>?_,fun x hx=>?_⟩
 ·rw [e,if_neg (by omega),if_neg (by omega),h.lo x (by omega)]
 ·rw [e,if_pos rfl,h.eq]
 ·rw [e,if_neg (by omega)]
  by_cases c:j=x
  ·rw [if_pos c,h.lo _ (by omega),c]
  rw [if_neg c,h.mid x (by omega) k2]
 rw [e,if_neg (by omega),if_neg (by omega),h.hi x hx]
theorem Dn.asc{lo i p:Nat}{P Q:List α}(h:Dn i p P Q)(h1:El key lo i P)(hp1:lo≤p)(hp2:p≤i)(hlo:lo<p→key (Ap P (p-1))≤key (Ap P i))(hhi:p<i→key (Ap P i)≤key (Ap P p)):El key lo (i+1) Q:=
 dZ h1 hp1 hp2 h.lo h.eq h.mid hlo hhi
structure bm(a k:Nat)(P Q:List α):Prop where
 len:Q.length=P.length
 lo:∀x,x<a→Ap Q x=Ap P x
 mid:∀x,a≤x→x<k→Ap Q x=Ap P (x+1)
 eq:Ap Q k=Ap P a
 hi:∀x,k<x→Ap Q x=Ap P x
theorem bm.refl(i:Nat)(P:List α):bm i i P P:=⟨rfl,fun _ _=>rfl,fun x h1 h2=>by omega,rfl,fun _ _=>rfl⟩
theorem bm.step{a k:Nat}{P Q:List α}(h:bm a k P Q)(h1:a≤k)(h3:k+1<P.length):bm a (k+1) P (SG Q k (k+1)):=by
 have hl:=h.len
 have e:=fun x=>Hu Q k (k+1) x (by omega) (by omega)
 refine ⟨by rw [H8,hl],fun x hx=>?_,fun x k1 k2=>?_,?_,fun x hx=>?_⟩
 ·rw [e,if_neg (by omega),if_neg (by omega),h.lo x hx]
 ·rw [e,if_neg (by omega)]
  by_cases c:k=x
  ·rw [if_pos c,h.hi _ (by omega),c]
  rw [if_neg c,h.mid x k1 (by omega)]
 ·rw [e,if_pos rfl,h.eq]
 rw [e,if_neg (by omega),if_neg (by omega),h.hi x (by omega)]
theorem bm.asc{a p b:Nat}{P Q:List α}(h:bm a p P Q)(h1:El key (a+1) b P)(hp1:a≤p)(hp2:p<b)(hlo:a<p→key (Ap P p)≤key (Ap P a))(hhi:p+1<b→key (Ap P a)≤key (Ap P (p+1))):El key a b Q:=by
 intro x y k1 k2 k3
 by_cases c1:x<p
 ·rw [h.mid x k1 c1]
  by_cases c2:y<p
  ·rw [h.mid y (by omega) c2];exact h1 _ _ (by omega) (by omega) (by omega)
  by_cases c3:y=p
  ·rw [c3,h.eq];have:=h1 (x+1) p (by omega) (by omega) (by omega);have:=hlo (by omega);omega
  rw [h.hi y (by omega)];exact h1 _ _ (by omega) (by omega) (by omega)
 by_cases c2:x=p
 ·rw [c2,h.eq]
  by_cases c3:y=p
  ·rw [c3,h.eq];exact Int.le_refl _
  rw [h.hi y (by omega)]
  have:=hhi (by omega);have:=h1 (p+1) y (by omega) (by omega) (by omega);omega
 rw [h.hi x (by omega),h.hi y (by omega)];exact h1 _ _ (by omega) (by omega) (by omega)
structure Tw(a b t:Nat)(P Q:List α):Prop where
 len:Q.length=P.length
 one:∀x,a≤x→x<a+t→Ap Q x=Ap P (x-a+b)
 two:∀x,b≤x→x<b+t→Ap Q x=Ap P (x-b+a)
 out:∀x,(x<a∨a+t≤x)→(x<b∨b+t≤x)→Ap Q x=Ap P x
theorem Tw.refl(a b:Nat)(P:List α):Tw a b 0 P P:=⟨rfl,fun x h1 h2=>by omega,fun x h1 h2=>by omega,fun _ _ _=>rfl⟩
theorem Tw.step{a b t:Nat}{P Q:List α}(h:Tw a b t P Q)(h1:a+t<b)(h2:b+t<P.length):Tw a b (t+1) P (SG Q (a+t) (b+t)):=by
 have hl:=h.len
 have e:=fun x=>Hu Q (a+t) (b+t) x (by omega) (by omega)
 refine ⟨by rw [H8,hl],fun x k1 k2=>?_,fun x k1 k2=>?_,fun x k1 k2=>?_⟩
 ·rw [e,if_neg (by omega)]
  by_cases c:a+t=x
  ·rw [if_pos c,h.out _ (by omega) (by omega)];congr 1;omega
  rw [if_neg c,h.one x k1 (by omega)]
 ·rw [e]
  by_cases c:b+t=x
  ·rw [if_pos c,h.out _ (by omega) (by omega)];congr 1;omega
  rw [if_neg c,if_neg (by omega),h.two x k1 (by omega)]
 rw [e,if_neg (by omega),if_neg (by omega),h.out x (by omega) (by omega)]
theorem Tw.blocks{A U C V B Q:List α}{n:Nat}(hu:U.length=n)(hv:V.length=n)(h:Tw A.length (A.length+n+C.length) n (A++(U++(C++(V++B)))) Q):Q=A++(V++(C++(U++B))):=by
 have hl:=h.len
 refine LW (by rw [hl];simp;omega) fun x hx=>?_
 rw [hl] at hx
 simp at hx
 by_cases c1:x<A.length
 ·rw [h.out x (by omega) (by omega),CJ _ _ _ c1,CJ _ _ _ c1]
 rw [BD A (V++(C++(U++B))) _ (by omega)]
 by_cases c2:x<A.length+n
 ·rw [h.one x (by omega) c2,CJ V _ _ (by omega),BD A _ _ (by omega),BD U _ _ (by omega),BD C _ _ (by omega),CJ V _ _ (by omega)];congr 1;omega
 rw [BD V (C++(U++B)) _ (by omega)]
 by_cases c3:x<A.length+n+C.length
 ·rw [h.out x (by omega) (by omega),CJ C (U++B) _ (by omega),BD A _ _ (by omega),BD U _ _ (by omega),CJ C _ _ (by omega)];congr 1;omega
 rw [BD C (U++B) _ (by omega)]
 by_cases c4:x<A.length+n+C.length+n
 ·rw [h.two x (by omega) c4,CJ U B _ (by omega),BD A _ _ (by omega),CJ U _ _ (by omega)];congr 1;omega
 rw [h.out x (by omega) (by omega),BD U B _ (by omega),BD A _ _ (by omega),BD U _ _ (by omega),BD C _ _ (by omega),BD V _ _ (by omega)];congr 1;omega
theorem QF.left{A U V B Q:List α}{i j:Nat}(hu:U.length=i)(hv:V.length=j)(hij:j≤i)(h:Tw A.length (A.length+i) j (A++(U++(V++B))) Q):
 ∃U1 U2,U=U1++U2∧U1.length=j∧U2.length=i-j∧Q=(A++V)++(U2++(U1++B))∧A++(V++(U++B))=(A++V)++(U1++(U2++B)):=by
 have e:U=U.take j++U.drop j:=(List.take_append_drop _ _).symm
 refine ⟨U.take j,U.drop j,e,by simp;omega,by simp;omega,?_,?_⟩
 ·rw [e,List.append_assoc] at h
  have:=Tw.blocks (A:=A) (U:=U.take j) (C:=U.drop j) (V:=V) (B:=B) (n:=j) (Q:=Q) (by simp;omega) hv (by
   rw [show A.length+j+(U.drop j).length=A.length+i by simp;omega];exact h)
  rw [this,List.append_assoc]
 conv=>lhs;rw [e]
 simp only [List.append_assoc]
theorem QF.right{A U V B Q:List α}{i j:Nat}(hu:U.length=i)(hv:V.length=j)(hij:i≤j)(h:Tw A.length (A.length+j) i (A++(U++(V++B))) Q):
 ∃V1 V2,V=V1++V2∧V1.length=j-i∧V2.length=i∧Q=A++(V2++(V1++(U++B)))∧A++(V++(U++B))=A++(V1++(V2++(U++B))):=by
 have e:V=V.take (j-i)++V.drop (j-i):=(List.take_append_drop _ _).symm
 refine ⟨V.take (j-i),V.drop (j-i),e,by simp;omega,by simp;omega,?_,?_⟩
 ·rw [e,List.append_assoc] at h
  have:=Tw.blocks (A:=A) (U:=U) (C:=V.take (j-i)) (V:=V.drop (j-i)) (B:=B) (n:=i) (Q:=Q) hu (by simp;omega) (by
   rw [show A.length+i+(V.take (j-i)).length=A.length+j by simp;omega];exact h)
  exact this
 conv=>lhs;rw [e]
 simp only [List.append_assoc]
end
end Go.Proofs.YtohacgmhmbijmaaGreatDoor
namespace Go.Proofs.YtohacgmhmbijmaaGreatDoor
attribute [local irreducible] Region.wanted
open Go.RowKit
set_option linter.unusedVariables false
set_option maxRecDepth 100000
set_option maxHeartbeats 8000000
theorem FA{α:Type}(enc:α→List Value)(m:Nat)(he:∀x,(enc x).length=m)(l:List α):(l.flatMap enc).length=l.length*m:=by
 induction l with
 | nil=>simp
 | cons x l ih=>rw [List.flatMap_cons,List.length_append,ih,he,List.length_cons,Nat.add_mul,Nat.one_mul,Nat.add_comm]
theorem Ga(w:World)(g:Nat)(t:TypeId)(A B D:List Value):∀(vs B A:List Value)(w:World)(cur:Array Value),w.heap[g]? =some (.cells cur t)→cur.toList=A++(B++D)→B.length=vs.length→∃cur':Array Value,(w.setCells g A.length vs).heap[g]? =some (.cells cur' t)∧cur'.toList=A++(vs++D)∧E4 [g] w (w.setCells g A.length vs)
 | [],[],A,w,cur,h,e,_=>⟨cur,h,e,⟨rfl,rfl,rfl,Nat.le_refl _,fun _ _ _=>rfl⟩⟩
 | [],_::_,A,w,cur,h,e,hl=>by simp at hl
 | _::_,[],A,w,cur,h,e,hl=>by simp at hl
 | v::vs,b::B,A,w,cur,h,e,hl=>by
   have h1:=heap_setCell_same w g A.length cur t v h
   have e1:(cur.setIfInBounds A.length v).toList=(A++[v])++(B++D):=by
    rw [Array.toList_setIfInBounds,e];simp
   obtain ⟨cur',h2,h3,h4⟩:=Ga w g t A B D vs B (A++[v]) _ _ h1 e1 (by simpa using hl)
   have e2:w.setCells g A.length (v::vs)=(w.setCell ⟨g,A.length,none⟩ v).setCells g (A++[v]).length vs:=by
    rw [World.setCells,List.length_append];rfl
   rw [e2]
   have h5:=E4.setCell w ⟨g,A.length,none⟩ v
   exact ⟨cur',h2,by rw [h3];simp,⟨h4.os.trans h5.os,h4.tape.trans h5.tape,h4.output.trans h5.output,Nat.le_trans h5.size h4.size,fun k hk hm=>(h4.block k (Nat.lt_of_lt_of_le hk h5.size) hm).trans (h5.block k hk hm)⟩⟩
section
variable{α:Type}[Inhabited α]
theorem PF(enc:α→List Value)(m:Nat)(he:∀x,(enc x).length=m):∀(l:List α)(j:Nat),j<l.length→((l.flatMap enc).drop (j*m)).take m=enc (Ap l j)
 | [],j,h=>by simp at h
 | x::l,0,h=>by rw [Nat.zero_mul,List.drop_zero,List.flatMap_cons,List.take_left' (he x)];simp [Ap]
 | x::l,j+1,h=>by
   rw [List.flatMap_cons,Nat.add_mul,Nat.one_mul,Nat.add_comm,←List.drop_drop,List.drop_left' (he x),PF enc m he l j (by simpa using h)]
   simp [Ap]
theorem Qt(enc:α→List Value)(m:Nat)(he:∀x,(enc x).length=m)(z:α):∀(l:List α)(j:Nat),j<l.length→∃A B,l.flatMap enc=A++(enc (Ap l j)++B)∧(l.set j z).flatMap enc=A++(enc z++B)∧A.length=j*m
 | [],j,h=>by simp at h
 | x::l,0,h=>⟨[],l.flatMap enc,by simp [Ap],by simp,by simp⟩
 | x::l,j+1,h=>by
   obtain ⟨A,B,e1,e2,e3⟩:=Qt enc m he z l j (by simpa using h)
   refine ⟨enc x++A,B,?_,?_,?_⟩
   ·rw [List.flatMap_cons,e1,List.append_assoc];simp [Ap]
   ·rw [List.set_cons_succ,List.flatMap_cons,e2,List.append_assoc]
   rw [List.length_append,he,e3,Nat.add_mul,Nat.one_mul,Nat.add_comm]
end
section
variable{α:Type}{P:Program}{W w:World}{rs rs':List Au}{Q:Exit→Act→World→Prop}{K:Act→World→Prop}{o:Oper}{a:Act}
theorem FG{e:TypeId}{n c m:Nat}{ad:Option Addr}{enc:α→List Value}{l:List α}(hS:St W w rs)(hp:AW (own e m ad n c (l.flatMap enc)) rs rs')(he:∀x,(enc x).length=m)(hm:0<m):l.length=n:=by
 have:=(hS.own hp).1
 rw [FA enc m he] at this
 exact Nat.eq_of_mul_eq_mul_right hm this
theorem R4(hS:St W w rs)(ty:TypeId)(x:Operand)(ho:o.op= .load ty x)(g q:Nat)(hx:a.eval x= .pointer (some ⟨g,q,none⟩))(m:Nat)(h1:Fi P ty m)(e:TypeId)(n c:Nat)(l:List α)(enc:α→List Value)(hp:AW (own e m (some ⟨g,0,none⟩) n c (l.flatMap enc)) rs rs')
 (inst:Inhabited α) (he:∀x,(enc x).length=m) (j:Nat) (hq:q=j*m) (hj:j<n) (h:K (a.put o.dst (.agg (enc (Ap l j)).toArray)) w):o.wp P a w K Q:=by
 subst hq
 have hl:=(hS.own hp).1
 rw [FA enc m he] at hl
 refine FN ty x ho g _ hx m h1 (enc (Ap l j)) (he _) ?_ h
 have:=Oa (off:=j*m) (m:=m) hS hp
 rcases Nat.eq_zero_or_pos m with h0|h0
 ·have e0:enc (Ap l j)=[]:=List.eq_nil_of_length_eq_zero (by rw [he,h0])
  rw [e0];intro i v hv;simp at hv
 have hln:l.length=n:=Nat.eq_of_mul_eq_mul_right h0 hl
 rwa [PF enc m he l j (by omega)] at this
theorem Ov(hS:St W w rs)(ty:TypeId)(x:Operand)(ho:o.op= .load ty x)(g q:Nat)(hx:a.eval x= .pointer (some ⟨g,q,none⟩))(h1:Nd P ty)(e:TypeId)(m n c:Nat)(l:List α)(enc:α→List Value)(hp:AW (own e m (some ⟨g,0,none⟩) n c (l.flatMap enc)) rs rs')
 (inst:Inhabited α) (he:∀x,(enc x).length=m) (j f:Nat) (hq:q=j*m+f) (hj:j<n) (v:Value) (hv:(enc (Ap l j))[f]? =some v) (h:K (a.put o.dst v) w):o.wp P a w K Q:=by
 subst hq
 have hf:f<m:=by rw [←he (Ap l j)];exact (List.getElem?_eq_some_iff.1 hv).1
 have hl:=FG hS hp he (by omega)
 refine Al hS ty x ho g _ hx h1 e m n c _ hp v ?_ h
 have:=PF enc m he l j (by omega)
 rw [←this,List.getElem?_take,if_pos hf,List.getElem?_drop] at hv
 exact hv
theorem Tp(hS:St W w rs)(ty:TypeId)(x:Operand)(ho:o.op= .load ty x)(g q:Nat)(hx:a.eval x= .pointer (some ⟨g,q,none⟩))(h1:Nd P ty)(e:TypeId)(m n c:Nat)(l:List α)(enc:α→List Value)(hp:AW (own e m (some ⟨g,0,none⟩) n c (l.flatMap enc)) rs rs')
 (inst:Inhabited α) (he:∀x,(enc x).length=m) (j:Nat) (hq:q=j*m) (hj:j<n) (v:Value) (hv:(enc (Ap l j))[0]? =some v) (h:K (a.put o.dst v) w):o.wp P a w K Q:=
 Ov hS ty x ho g q hx h1 e m n c l enc hp inst he j 0 hq hj v hv h
theorem XT(hS:St W w rs)(ty:TypeId)(x y:Operand)(ho:o.op= .store ty x y)(g q:Nat)(hx:a.eval x= .pointer (some ⟨g,q,none⟩))(m:Nat)(h1:Fi P ty m)(e:TypeId)(n c:Nat)(l:List α)(enc:α→List Value)(hp:AW (own e m (some ⟨g,0,none⟩) n c (l.flatMap enc)) rs rs')
 (inst:Inhabited α) (he:∀x,(enc x).length=m) (hone:∀x,(enc x).all (·.oneCell')=true) (j:Nat) (hq:q=j*m) (hj:j<n) (z:α) (hy:a.eval y= .agg (enc z).toArray) (hd:o.dst=none) (h:∀w',St W w' (own e m (some ⟨g,0,none⟩) n c ((l.set j z).flatMap enc)::rs')→K a w'):o.wp P a w K Q:=by
 subst hq
 have hown:=hS.own hp
 have hlen:=hown.1
 rw [FA enc m he] at hlen
 rcases hown.2 with ⟨h2,_⟩|⟨g',cap,cur,h2,hb,hg,hn,hc,hsz,htake⟩
 ·cases h2
 cases h2
 have hln:m=0∨l.length=n:=by
  rcases Nat.eq_zero_or_pos m with h0|h0
  ·exact .inl h0
  exact .inr (Nat.eq_of_mul_eq_mul_right h0 hlen)
 have hjm:j*m+m≤n*m:=by have:=Nat.mul_le_mul_right m hj;rwa [Nat.succ_mul] at this
 have hcm:n*m≤c*m:=Nat.mul_le_mul_right m hn
 refine wp_store_mid ty x y ho g (j*m) (enc z).toArray hx hy ?_ (by rw [h1.2];simp [he]) (by simpa using hone z) ?_
 ·intro i hi
  rw [List.size_toArray,he] at hi
  refine ⟨?_,frozen_of_row w g _ cur e hg⟩
  have:=G6 hS hp (k:=j*m+i) (v:=(l.flatMap enc)[j*m+i]'(by rw [FA enc m he];omega)) (by rw [List.getElem?_eq_getElem])
  rw [this];rfl
 rw [show a.put o.dst undef=a by rw [hd];rfl]
 refine h _ ?_
 refine St.change (rs1:=[own e m (some ⟨g,0,none⟩) n c ((l.set j z).flatMap enc)]) (hS.pull hp) fun f1 k1 _ _=>?_
 obtain ⟨rfl,_⟩:=k1
 rcases hln with h0|hln
 ·have e0:∀y,enc y=[]:=fun y=>List.eq_nil_of_length_eq_zero (by rw [he,h0])
  have e1:∀l:List α,l.flatMap enc=[]:=fun l=>List.eq_nil_of_length_eq_zero (by rw [FA enc m he,h0,Nat.mul_zero])
  rw [e0,e1]
  refine ⟨[g],⟨[g],[],rfl,⟨rfl,by simp [h0], .inr ⟨g,c,cur,rfl,hb,hg,hn,hc,hsz,by rw [h0];simp⟩⟩,rfl⟩,by simp,fun b hb=> .inl hb,⟨rfl,rfl,rfl,Nat.le_refl _,fun _ _ _=>rfl⟩⟩
 obtain ⟨A,B,e1,e2,e3⟩:=Qt enc m he z l j (by omega)
 have ecur:cur.toList=A++(enc (Ap l j)++(B++cur.toList.drop (n*m))):=by
  conv=>lhs;rw [←List.take_append_drop (n*m) cur.toList,htake,e1]
  simp
 obtain ⟨cur',k2,k3,k4⟩:=Ga w g e [] [] (B++cur.toList.drop (n*m)) (enc z) (enc (Ap l j)) A w cur hg ecur (by rw [he,he])
 rw [←e3]
 have hAB:(A++(enc z++B)).length=n*m:=by rw [←e2,FA enc m he,List.length_set,hln]
 refine ⟨[g],⟨[g],[],rfl,⟨rfl,by rw [FA enc m he,List.length_set,hln], .inr ⟨g,c,cur',rfl,hb,k2,hn,hc,?_,?_⟩⟩,rfl⟩,by simp,fun b hb=> .inl hb,k4⟩
 ·have a1:=congrArg List.length k3
  have a2:=congrArg List.length ecur
  simp only [List.length_append,Array.length_toList,he] at a1 a2
  omega
 have a3:cur'.toList=(A++(enc z++B))++cur.toList.drop (n*m):=by rw [k3];simp
 rw [a3,List.take_left' hAB,e2]
end
structure EC where
 w:Int
 ad:Option Addr
 n:Nat
 c:Nat
instance:Inhabited EC:=⟨⟨0,none,0,0⟩⟩
def N8(p:EC):List Value:=[.int .i64 p.w, .slice p.ad p.n p.c]
theorem Dc:∀p,(N8 p).length=2:=fun _=>rfl
theorem Pa:∀p,(N8 p).all (·.oneCell')=true:=fun _=>rfl
end Go.Proofs.YtohacgmhmbijmaaGreatDoor
