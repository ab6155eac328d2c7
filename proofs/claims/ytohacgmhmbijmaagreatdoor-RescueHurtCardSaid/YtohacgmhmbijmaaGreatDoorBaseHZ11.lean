/- What the laws RescueHurt need, part 11. -/
import Derived.Test.YtohacgmhmbijmaaGreatDoorBaseHZ1
import Derived.Test.YtohacgmhmbijmaaGreatDoorBaseHZ2
import Derived.Test.YtohacgmhmbijmaaGreatDoorBaseHZ3
import Derived.Test.YtohacgmhmbijmaaGreatDoorBaseHZ5
import Derived.Test.YtohacgmhmbijmaaGreatDoorBaseHZ7
import Derived.Test.YtohacgmhmbijmaaGreatDoorBaseHZ8
import Derived.Test.YtohacgmhmbijmaaGreatDoorBaseHZ10
import Derived.Deep.MidRow
namespace Go.Proofs.YtohacgmhmbijmaaGreatDoor
attribute [local irreducible] Region.wanted
open Go.RowKit
set_option linter.unusedVariables false
set_option maxRecDepth 100000
set_option maxHeartbeats 8000000
theorem Pa(n every:Nat)(h:0<every):∀f at_,(Cm n every f at_).length≤n-at_
 | 0,_=>by simp [Cm]
 | f+1,at_=>by
   unfold Cm
   by_cases h0:at_<n
   ·rw [if_pos h0,List.length_cons]
    have:=Pa n every h f (at_+every)
    omega
   rw [if_neg h0];simp
theorem Gi(n every:Nat):(A5 n every).length≤n+1:=by
 unfold A5
 by_cases h:every=0∨n=0
 ·rw [if_pos h];simp
 rw [if_neg h]
 have:=Pa n every (by omega) n 0
 omega
theorem SY(n every:Nat):∀f at_,∀x∈Cm n every f at_,x.1≤x.2∧x.2≤n
 | 0,_,x,hx=>by simp [Cm] at hx
 | f+1,at_,x,hx=>by
   unfold Cm at hx
   by_cases h0:at_<n
   ·rw [if_pos h0] at hx
    rcases List.mem_cons.1 hx with rfl|hx
    ·dsimp only;omega
    exact SY n every f _ x hx
   rw [if_neg h0] at hx;cases hx
theorem D5(n every:Nat):∀x∈A5 n every,x.1≤x.2∧x.2≤n:=by
 intro x hx
 unfold A5 at hx
 by_cases h:every=0∨n=0
 ·rw [if_pos h] at hx;simp at hx;subst hx;dsimp only;omega
 rw [if_neg h] at hx;exact SY n every n 0 x hx
theorem LA:∀(k:Nat)(b:List Int)(o:List (List Int))(m p:List Int)(ps:List (List Int))(ms:List Int),b.length≤k→Df b o m p=some (ps,ms)→(∀x∈b,0≤x∧x<256)→(∀q∈o,∀x∈q,0≤x∧x<256)→(∀x∈p,0≤x∧x<256)→∀L:Nat,p.length+b.length≤L→(∀q∈o,q.length≤L)→∀q∈ps,(∀x∈q,0≤x∧x<256)∧q.length≤L
 | _,[],o,m,p,ps,ms,_,h,hb,ho,hp,L,hl,hol,q,hq=>by
   rw [Df] at h
   have e:=congrArg Prod.fst (Option.some.inj h)
   dsimp only at e
   subst e
   rcases List.mem_append.1 hq with hq|hq
   ·exact ⟨ho q hq,hol q hq⟩
   rw [List.mem_singleton.1 hq];exact ⟨hp,by simpa using hl⟩
 | 0,x::b,o,m,p,ps,ms,hk,h,hb,ho,hp,L,hl,hol,q,hq=>by simp at hk
 | k+1,x::b,o,m,p,ps,ms,hk,h,hb,ho,hp,L,hl,hol,q,hq=>by
   have hx:=hb x (by simp)
   simp only [List.length_cons] at hk hl
   rw [Df.eq_def] at h
   dsimp only at h
   by_cases h255:x=255
   ·rw [if_pos h255] at h
    match b,h,hb,hk,hl with
    | [],h,_,_,_=>cases h
    | y::b,h,hb,hk,hl=>
      dsimp only at h
      simp only [List.length_cons] at hk hl
      by_cases h1:y=255
      ·rw [if_pos h1] at h;cases h
      rw [if_neg h1] at h
      by_cases h0:y=0
      ·rw [if_pos h0] at h
       refine LA k b o m _ ps ms (by omega) h (fun z hz=>hb z (by simp [hz])) ho (fun z hz=>?_) L (by simp;omega) hol q hq
       rcases List.mem_append.1 hz with hz|hz
       ·exact hp z hz
       simp at hz;rcases hz with rfl|rfl<;>omega
      rw [if_neg h0] at h
      refine LA k b _ _ _ ps ms (by omega) h (fun z hz=>hb z (by simp [hz])) (fun r hr=>?_) (fun z hz=>by cases hz) L (by simp;omega) (fun r hr=>?_) q hq
      ·rcases List.mem_append.1 hr with hr|hr
       ·exact ho r hr
       rw [List.mem_singleton.1 hr];exact hp
      rcases List.mem_append.1 hr with hr|hr
      ·exact hol r hr
      rw [List.mem_singleton.1 hr];omega
   rw [if_neg h255] at h
   refine LA k b o m _ ps ms (by omega) h (fun z hz=>hb z (by simp [hz])) ho (fun z hz=>?_) L (by simp;omega) hol q hq
   rcases List.mem_append.1 hz with hz|hz
   ·exact hp z hz
   rw [List.mem_singleton.1 hz];exact hx
theorem IU{C1 S1 C2 S2 b:List Int}{z:Int}(h:(E5 C1 S1 C2 S2 b z).1=0):∃n:Nat,z=(n:Int)∧n≤400∧(E5 C1 S1 C2 S2 b z).2.length=n*64:=by
 obtain ⟨n,h1,h2,h3,_⟩:=K7 h
 exact ⟨n,h1,h2,h3⟩
noncomputable def L8(C1 S1 C2 S2:List Int):List (Nat×Nat)→List (List Int)→Int×List Int
 | [],_=>(0,[])
 | x::L,ps=>if (E5 C1 S1 C2 S2 (ps.headD []) ((x.2-x.1:Nat):Int)).1≠0 then ((E5 C1 S1 C2 S2 (ps.headD []) ((x.2-x.1:Nat):Int)).1,[]) else
   ((L8 C1 S1 C2 S2 L ps.tail).1,(E5 C1 S1 C2 S2 (ps.headD []) ((x.2-x.1:Nat):Int)).2++(L8 C1 S1 C2 S2 L ps.tail).2)
noncomputable def P2(C1 S1 C2 S2 b:List Int)(n every:Int):Int×List Int:=if OE C1 S1 C2 S2 b n every=0 then match Df b [] [] [] with
 | none=>(4,[])
 | some y=>if (L8 C1 S1 C2 S2 (A5 n.toNat every.toNat) y.1).1=0 then L8 C1 S1 C2 S2 (A5 n.toNat every.toNat) y.1 else ((L8 C1 S1 C2 S2 (A5 n.toNat every.toNat) y.1).1,[])
 else (OE C1 S1 C2 S2 b n every,[])
theorem SL{W w:World}{pcs:List Pc}{rs rs':List Ar}(h:St W w rs)(p:AT (star (pcs.map Pc.res)) rs rs'){x:Pc}(hx:x∈pcs):x.ad=none→x.c=0:=by
 obtain ⟨s,hs⟩:=h.starGet p (List.mem_map.2 ⟨x,hx,rfl⟩)
 exact SJ hs (show AT (own 5 1 x.ad x.xs.length x.c (x.xs.map (Value.int .u8))) (Pc.res x::s) s from .head)
theorem Wu{C1 S1 C2 S2 b:List Int}{n every:Int}(h:OE C1 S1 C2 S2 b n every=0):IP n every:=by
 unfold OE at h
 by_cases h1:Lg C1 S1 C2 S2 b n every=0
 ·exact (Ky h1).1
 rw [if_neg h1] at h;exact absurd h h1
theorem K6(w0:World)(C1 C2 S1 S2:List Int)(a1 a2:Option Addr)(n1 n2 k1 k2:Nat)(hC1:Al C1 16)(hC2:Al C2 16)(hs1:Sl w0 1 (.slice a1 n1 k1) n1 (S1.map (Value.int .i64)))(hs2:Sl w0 1 (.slice a2 n2 k2) n2 (S2.map (Value.int .i64)))(hn1:n1≤9223372036854775807)(hn2:n2≤9223372036854775807)(ad:Option Addr)(nb c:Nat)(b:List Int)(n every:Int)
 (hb:nb≤1000000000) (hv:Sl w0 1 (.slice ad nb c) nb (b.map (Value.int .u8))) (hx:∀x∈b,0≤x∧x<256) (hml:∃m,w0.cell? ⟨0,0,none⟩=some (.int .i64 m)):
 Calls Tryz.prog 20 #[.agg (AF [.ints C1, .val (.slice a1 n1 k1), .ints C2, .val (.slice a2 n2 k2)]).toArray, .slice ad nb c, .int .i64 n, .int .i64 every] w0 (Fu w0 (P2 C1 S1 C2 S2 b n every).1 (P2 C1 S1 C2 S2 b n every).2):=by
 have hS:=St.start w0
 have HX:=AD hx
 have HML:=AD hml
 have hbl:b.length=nb:=by have:=hv.1;simpa using this
 clear hx hml
 by_cases hW:OE C1 S1 C2 S2 b n every=0
 case neg=>
  obtain ⟨E,hE⟩:∃E,OE C1 S1 C2 S2 b n every=E:=⟨_,rfl⟩
  have h0:E≠0:=by rw [←hE];exact hW
  have HE:=AD hE
  have HW:=AD (show P2 C1 S1 C2 S2 b n every=(E,[]) by unfold P2;rw [if_neg hW,hE])
  clear hW hE
  go_enter Tryz.func20,Tryz.ntmps20
  repeat' (first
   | (refine AQ 22 ?_);refine AM (f:=49) Tryz.call49 AA ?_;refine ⟨_,(Mm _ C1 C2 S1 S2 a1 a2 n1 n2 k1 k2 hC1 hC2 (hs1.ext hS.1) (hs2.ext hS.1) hn1 hn2 ad nb c b n every hb (hv.ext hS.1) HX.out),?_⟩;rintro e w ⟨hq,_⟩;rw [HE.out] at hq;obtain ⟨rfl,hE2⟩:=hq h0;clear hq;replace hS:=hS.ext hE2;clear hE2;refine Ac ?_;go_step|refine X0 ?_|refine X6 ?_|refine X4 ?_|refine OI 4 ?_;clear hS;intro g4 w hS|refine P0 ?_|refine AG ?_;go_step|fail)
  all_goals (try exact AR)
  refine AK (xs:=[_,_]) rfl (.cons (AC.tmp rfl) (.cons (AC.tmp rfl) (.nil))) (by simp) rfl ?_
  exact Ep E (by rw [HW.out]) (by rw [HW.out]) hS.1
 have hok:=Wu hW
 unfold IP at hok
 obtain ⟨N,rfl⟩:∃N:Nat,n=(N:Int):=⟨n.toNat,by omega⟩
 obtain ⟨Ev,rfl⟩:∃N:Nat,every=(N:Int):=⟨every.toNat,by omega⟩
 have HW:=AD hW
 obtain ⟨M,hM⟩:∃M,(A5 N Ev).length=M:=⟨_,rfl⟩
 have hM4:M≤401:=by rw [←hM];have:=Gi N Ev;omega
 have HM:=AD hM
 clear hW hM
 go_enter Tryz.func20,Tryz.ntmps20
 repeat' (first
  | (refine AQ 22 ?_);refine AM (f:=49) Tryz.call49 AA ?_;refine ⟨_,(Mm _ C1 C2 S1 S2 a1 a2 n1 n2 k1 k2 hC1 hC2 (hs1.ext hS.1) (hs2.ext hS.1) hn1 hn2 ad nb c b (N:Int) (Ev:Int) hb (hv.ext hS.1) HX.out),?_⟩;rintro e w ⟨_,hq⟩;rw [Int.toNat_natCast,Int.toNat_natCast,HM.out] at hq;obtain ⟨pcs,ms,ao,co,hsp,hpl,rfl,hS2⟩:=hq HW.out;clear hq;have HSP:=AD hsp;have HPL:=AD hpl;clear hsp hpl;replace hS:=hS.call hS2;dsimp only [List.cons_append,List.nil_append] at hS;clear hS2;refine Ac ?_;go_step|refine X0 ?_|refine X6 ?_|refine X4 ?_|refine OI 4 ?_;clear hS;intro g4 w hS|refine P0 ?_|refine AG ?_;go_step|fail)
 all_goals (try exact AR)
 have hin:=LA b.length b [] [] [] _ ms (Nat.le_refl _) HSP.out HX.out (fun q hq=>(by cases hq)) (fun x hx=>(by cases hx)) nb (by simp;omega) (fun q hq=>(by cases hq))
 have HIN:=AD hin
 obtain ⟨D,hD⟩:∃D,L8 C1 S1 C2 S2 (A5 N Ev) (pcs.map (·.xs))=D:=⟨_,rfl⟩
 have HSC:=AD (show P2 C1 S1 C2 S2 b N Ev=if D.1=0 then D else (D.1,[]) by
  unfold P2;rw [if_pos HW.out,HSP.out];dsimp only;rw [Int.toNat_natCast,Int.toNat_natCast,hD])
 have HD:=AD hD
 clear hin hD hbl
 repeat' (first
  | (refine AQ 30 ?_);refine AM (f:=50) Tryz.call50 AA ?_;refine ⟨_,(EI _ N Ev (by omega) (by omega)),?_⟩;rintro e w ⟨a3,c3,m3,hm3,rfl,hS2⟩;obtain rfl:M=m3:=(by rw [←hm3];exact HM.out.symm);clear hm3;replace hS:=hS.call1 hS2;clear hS2;refine Ac ?_;go_step|refine X1 ?_|refine cx ?_|refine AG ?_;go_step|fail)
 replace hS:=hS.nilk 26 64 .i64
 go_loopg [12,32] M (fun gk ov kv w=>∃(k q:Nat) (acc:List Int) (ao2:Option Addr) (co2:Nat),gk+k=M∧kv= .int .i64 k∧ov= .slice ao2 q co2∧q≤400*k∧Hid (acc.length=q*64)∧CV (D=((L8 C1 S1 C2 S2 ((A5 N Ev).drop k) ((pcs.map (·.xs)).drop k)).1,acc++(L8 C1 S1 C2 S2 ((A5 N Ev).drop k) ((pcs.map (·.xs)).drop k)).2))∧St w0 w [own 26 64 ao2 q co2 (acc.map (Value.int .i64)),prt g4 [.ints C1, .val (.slice a1 n1 k1), .ints C2, .val (.slice a2 n2 k2)],own 35 1 ao M co (pcs.map Pc.val),star (pcs.map Pc.res),own 94 2 a3 M c3 ((OC (A5 N Ev)).map (Value.int .i64))])
 case atStart=>exact ⟨0,0,[],none,0,by omega,rfl,rfl,by omega,AD rfl,⟨by rw [←HD.out];rfl⟩,hS.sub AV⟩
 case round=>
  clear hS
  obtain ⟨k,q,acc,ao2,co2,hk,rfl,rfl,hq4,HQ,HV,hS⟩:=hrel
  by_cases hlt:k<M
  ·obtain ⟨⟨f,t⟩,hx⟩:∃x,(A5 N Ev)[k]? =some x:=⟨_,List.getElem?_eq_getElem (by rw [HM.out];exact hlt)⟩
   obtain ⟨⟨pa,pcc,px⟩,hpx⟩:∃x,pcs[k]? =some x:=⟨_,List.getElem?_eq_getElem (by rw [HPL.out];exact hlt)⟩
   have hft:=D5 N Ev _ (List.mem_of_getElem? hx)
   dsimp only at hft
   have hmem:(⟨pa,pcc,px⟩:Pc)∈pcs:=List.mem_of_getElem? hpx
   have hpin:=HIN.out px (List.mem_map.2 ⟨_,hmem,rfl⟩)
   have hpl:px.length≤nb:=hpin.2
   have HPR:=AD hpin.1
   have hseg:=IV (A5 N Ev) k _ hx
   dsimp only at hseg
   have hpv:(pcs.map Pc.val)[k]? =some (.slice pa px.length pcc):=by rw [List.getElem?_map,hpx];rfl
   have hd1:(A5 N Ev).drop k=(f,t)::(A5 N Ev).drop (k+1):=by
    rw [List.drop_eq_getElem_cons (by rw [HM.out];exact hlt)]
    rw [List.getElem?_eq_getElem (by rw [HM.out];exact hlt)] at hx
    rw [Option.some.inj hx]
   have hd2:(pcs.map (·.xs)).drop k=px::(pcs.map (·.xs)).drop (k+1):=by
    rw [List.drop_eq_getElem_cons (by rw [List.length_map,HPL.out];exact hlt)]
    rw [List.getElem?_eq_getElem (by rw [HPL.out];exact hlt)] at hpx
    rw [List.getElem_map,Option.some.inj hpx]
   obtain ⟨⟨E,B⟩,hR⟩:∃R,E5 C1 S1 C2 S2 px ((t-f:Nat):Int)=R:=⟨_,rfl⟩
   have hstep:CV (L8 C1 S1 C2 S2 ((A5 N Ev).drop k) ((pcs.map (·.xs)).drop k)=if E≠0 then (E,[]) else ((L8 C1 S1 C2 S2 ((A5 N Ev).drop (k+1)) ((pcs.map (·.xs)).drop (k+1))).1,B++(L8 C1 S1 C2 S2 ((A5 N Ev).drop (k+1)) ((pcs.map (·.xs)).drop (k+1))).2)):=⟨by rw [hd1,hd2,L8];simp only [List.headD_cons,List.tail_cons,hR]⟩
   have HBL:CV (E=0→B.length=(t-f)*64):=⟨fun h=>by
    obtain ⟨n',e1,e2,e3⟩:=IU (C1:=C1) (S1:=S1) (C2:=C2) (S2:=S2) (b:=px) (z:=((t-f:Nat):Int)) (by rw [hR];exact h)
    rw [hR] at e3
    have:n'=t-f:=by omega
    rw [←this];exact e3⟩
   have HR:=AD hR
   have HMEM:=AD hmem
   obtain ⟨g3,rfl⟩:=Ba (a:=a3) hS AL (by omega)
   obtain ⟨g1,rfl⟩:=Ba (a:=ao) hS AL (by omega)
   clear hx hpx hpin hd1 hd2 hR hmem
   repeat' (first
    | refine X0 ?_|refine X2 ?_|refine S8 35 ?_|refine dB ?_|refine ch 14 ?_;clear hS;intro g14 w hS|refine ct ?_;clear hS;intro w hS|refine AG ?_;go_step|fail)
   all_goals (try exact AR)
   replace hS:St w0 w [blk g14 [.int .i64 (f:Nat), .int .i64 (t:Nat)],own 26 64 ao2 q co2 (acc.map (Value.int .i64)),prt g4 [.ints C1, .val (.slice a1 n1 k1), .ints C2, .val (.slice a2 n2 k2)],own 35 1 (some ⟨g1,0,none⟩) M co (pcs.map Pc.val),star (pcs.map Pc.res),own 94 2 (some ⟨g3,0,none⟩) M c3 ((OC (A5 N Ev)).map (Value.int .i64))]:=hS
   refine AP [10] (fun w=>St w0 w [prt g4 [.ints C1, .val (.slice a1 n1 k1), .ints C2, .val (.slice a2 n2 k2)],own 35 1 (some ⟨g1,0,none⟩) M co (pcs.map Pc.val),blk g14 [.int .i64 (f:Nat), .int .i64 (t:Nat)]]) AA ?_
   replace hS:=hS.drew
   focus
    refine Zs 0 [10,11,12,13,14,15] ?_
    refine AZ 1 ?_
    refine AZ 2 ?_
    refine BZ 3 BN (V.indexSl Tryz.underlying88 SB rfl rfl A9 (by omega) (Nat.mul_one _) A7) ?_;go_step
    refine fW 4 [10,11,12,13,14,15] ?_
    refine BZ 5 BN (V.fieldAddr NN rfl A7) ?_;go_step
    refine Y5 6 [9,10,11,12,13,14,15] ?_
    refine BZ 7 BN (V.fieldAddr NM rfl A7) ?_;go_step
    refine Y5 8 [9,10,11,12,13,14,15] ?_
    (refine BV 9 (.int _ (((t-f:Nat):Int))) Aj AA AA AA Be (V.as (V.subI rfl rfl (by omega)) (by omega)) AA ?_)
    go_step
    refine Av 10 ?_
    refine AY (f:=51) rfl Tryz.call51 (Gy _ C1 C2 S1 S2 a1 a2 n1 n2 k1 k2 hC1 hC2 (hs1.ext hS.1) (hs2.ext hS.1) hn1 hn2 pa px.length pcc px _ (by omega) (J5 hS AL HMEM.out) (SL hS AL HMEM.out) HPR.out (HML.out.imp fun m h=>hS.1.cell h) _ HR.out) ?_;rintro e w ⟨al,cl,ml,hml,rfl,hS2⟩;have HMM:=AD hml;dsimp only at hS2⊢;replace hS:=hS.call1 hS2;clear hS2 hml;refine ⟨_,rfl,?_⟩
    refine ⟨fun h=>absurd (by decide) h,?_⟩
    refine AI ?_
    go_step
    refine AZ 11 ?_
    refine Y2 12 ?_
    refine Y2 13 ?_
    refine AZ 14 ?_
    refine AZ 15 ?_
    refine AE AA ?_ _
   all_goals
    repeat' (first|(refine AG ?_;go_step)|fail)
    by_cases hE0:E=0
    case neg=>
     have hD1:CV (D=(E,acc)):=⟨by rw [HV.out,hstep.out,if_pos hE0];simp⟩
     have HS1:=AD (show P2 C1 S1 C2 S2 b N Ev=(E,[]) by rw [HSC.out,hD1.out,if_neg hE0])
     clear HV hstep HBL hD1
     repeat' (first
      | refine X0 ?_|refine X4 ?_|refine AG ?_;go_step|fail)
     all_goals (try exact AR)
     refine AK (xs:=[_,_]) rfl (.cons (AC.tmp rfl) (.cons (AC.tmp rfl) (.nil))) (by simp) rfl ?_
     exact Ep E (by rw [HS1.out]) (by rw [HS1.out]) hS.1
    have hbl:=HBL.out hE0
    have HV2:CV (D=((L8 C1 S1 C2 S2 ((A5 N Ev).drop (k+1)) ((pcs.map (·.xs)).drop (k+1))).1,(acc++B)++(L8 C1 S1 C2 S2 ((A5 N Ev).drop (k+1)) ((pcs.map (·.xs)).drop (k+1))).2)):=⟨by rw [HV.out,hstep.out,if_neg (by simpa using hE0),List.append_assoc]⟩
    have hml2:ml=t-f:=by have h9:B.length=ml*64:=HMM.out;omega
    clear HV hstep HBL
    subst hE0
    repeat' (first
     | refine X1 ?_|refine X4 ?_|refine AG ?_;go_step|fail)
    all_goals (try exact AR)
    repeat' (first
     | refine X0 ?_|refine X7 ?_|refine cu 56 ?_;clear hS;intro ad56 c56 w hS|refine AG ?_;go_step|fail)
    go_roundg (gk-1)
    case measure=>omega
    case rel=>exact ⟨k+1,q+ml,acc++B,_,_,by omega,by go_num,rfl,by omega,AD (by rw [List.length_append,HQ.out,HMM.out];omega),HV2,hS.sub AV⟩
  obtain rfl:k=M:=by omega
  have hD0:CV (D=(0,acc)):=⟨by rw [HV.out,List.drop_of_length_le (by rw [HM.out];omega),L8,List.append_nil]⟩
  have HS1:=AD (show P2 C1 S1 C2 S2 b N Ev=(0,acc) by rw [HSC.out,hD0.out,if_pos rfl])
  clear HV
  repeat' (first
   | refine X0 ?_|refine X2 ?_|refine AG ?_;go_step|fail)
  all_goals (try exact AR)
  repeat' (first
   | refine AG ?_;go_step|fail)
  refine AK (xs:=[_,_]) rfl (.cons (AC.tmp rfl) (.cons (AC.tmp rfl) (.nil))) (by simp) rfl ?_
  exact ⟨ao2,co2,q,by rw [HS1.out];exact HQ.out,by rw [HS1.out];rfl,by rw [HS1.out];exact hS.sub AV⟩
section
variable{P:Program}{Q:Exit→Act→World→Prop}{a:Act}{W w:World}{c:Code}
theorem Wy{F:Nat→Nat→Nat→Nat→Act}(rs:Nat→Nat→Nat→Nat→List Ar)(h:c.wp P (fun e a w=>e= .normal∧∃g g' g2 g3,a=F g g' g2 g3∧St W w (rs g g' g2 g3)) a w)(k:∀g g' g2 g3 w,St W w (rs g g' g2 g3)→Q .normal (F g g' g2 g3) w):c.wp P Q a w:=
 Code.wp_mono (fun e a w ⟨he,g,g',g2,g3,ha,hS⟩=>by subst he;subst ha;exact k g g' g2 g3 w hS) h
end
def TP(g5 g6 g8 g9:Nat)(s:List Int×List Int):Ar:=star [blk g5 [.slice (some ⟨g8,0,none⟩) 256 256],blk g6 [.slice (some ⟨g9,0,none⟩) 256 256],own 3 1 (some ⟨g8,0,none⟩) 256 256 ((Cn s.1).map (Value.int .i64)),own 3 1 (some ⟨g9,0,none⟩) 256 256 ((Cn s.2).map (Value.int .i64))]
theorem QI(W w0:World)(rs rs':List Ar)(g5 g6 g8 g9:Nat)(A B:List Int)(t0 t1 t2:Int)(b:Bool)(hS:St W w0 rs)(hp:AT (TP g5 g6 g8 g9 (A,B)) rs rs')(hb:A.length+B.length≤1000000)(ht:0≤t0∧t0<256):
 Calls Tryz.prog 101 #[.agg #[.int .i64 t0, .int .i64 t1, .int .i64 t2], .bool b, .pointer (some ⟨g5,0,none⟩), .pointer (some ⟨g6,0,none⟩)] w0 fun e w=>e= .returned (.int .i64 0)∧St W w (TP g5 g6 g8 g9 (Bz (A,B) (t0,t1,t2) b).2::rs'):=by
 obtain ⟨_,hS⟩:=(hS.pull hp).open
 dsimp only [List.cons_append,List.nil_append] at hS
 obtain ⟨q,rfl⟩:∃q:Nat,t0=(q:Int):=⟨t0.toNat,by omega⟩
 have hq:q<256:=by omega
 have hA:=G8 A hq
 have hB:=G8 B hq
 have HCA:=AD (OV A hq)
 have HCB:=AD (OV B hq)
 clear hp
 cases b
 ·have HR:=AD (show (Bz (A,B) ((q:Int),t1,t2) false).2=(A,B++[(q:Int)]) from rfl)
  go_enter Tryz.func101,Tryz.ntmps101
  repeat' (first
   | refine X0 ?_|refine Xa 4 ?_;clear hS;intro g4 w hS|refine AG ?_;go_step|fail)
  repeat' (first
   | refine X8 ?_|refine Uj ?_|refine XJ 18 ?_|refine X7 ?_|refine XJ 21 ?_|refine ah ?_|refine dk ?_|refine aR ?_;clear hS;intro w hS|refine AG ?_;go_step|fail)
  go_ret
  rw [HR.out]
  refine ⟨rfl,St.close () ?_⟩
  dsimp only [List.cons_append,List.nil_append]
  rw [←HCB.out]
  exact hS.sub AV
 have HR:=AD (show (Bz (A,B) ((q:Int),t1,t2) true).2=(A++[(q:Int)],B) from rfl)
 go_enter Tryz.func101,Tryz.ntmps101
 repeat' (first
  | refine X0 ?_|refine Uj ?_|refine XJ 11 ?_|refine X7 ?_|refine XJ 14 ?_|refine Xa 4 ?_;clear hS;intro g4 w hS|refine ah ?_|refine dk ?_|refine aR ?_;clear hS;intro w hS|refine AG ?_;go_step|fail)
 repeat' (first
  | refine AG ?_;go_step|fail)
 go_ret
 rw [HR.out]
 refine ⟨rfl,St.close () ?_⟩
 dsimp only [List.cons_append,List.nil_append]
 rw [←HCA.out]
 exact hS.sub AV
def U6(W:World)(g5 g6 g8 g9:Nat):ce W (List Int×List Int) where
 step:=Bz
 res:=TP g5 g6 g8 g9
 ok s m:=s.1.length+s.2.length+m≤1000000
 K:=101
 caps:=#[.pointer (some ⟨g5,0,none⟩), .pointer (some ⟨g6,0,none⟩)]
 inv:=Tryz.call101
 okS s m t b h _ _:=by
  cases b<;>simp [Bz]<;>omega
 okM s m k h hk:=by omega
 call w rs rs' s m t0 t1 t2 b er s' hS hp h ht hst:=by
  obtain ⟨A,B⟩:=s
  have e1:er=0:=by have:=congrArg Prod.fst hst;exact this.symm
  have e2:s'=(Bz (A,B) (t0,t1,t2) b).2:=by rw [hst]
  subst e1;subst e2
  exact QI W w rs rs' g5 g6 g8 g9 A B t0 t1 t2 b hS hp (by dsimp only at h;omega) ht.1
theorem Rf(W w0:World)(rs rs':List Ar)(g5 g6 g8 g9:Nat)(ad:Option Addr)(n c:Nat)(l:List Int)(E:Int)(hE:BX l n=E)(hn:n≤9223372036854775807)(hv:Sl W 64 (.slice ad n c) n (l.map (Value.int .i64)))(hS:St W w0 rs)(hp:AT (TP g5 g6 g8 g9 ([],[])) rs rs'):
 Calls Tryz.prog 100 #[.slice ad n c, .func (.func 101) #[] #[.pointer (some ⟨g5,0,none⟩), .pointer (some ⟨g6,0,none⟩)]] w0 fun e w=>e= .returned (.int .i64 E)∧∃s',(E=0→s'=(P4 l n,LG l n))∧St W w (TP g5 g6 g8 g9 s'::rs'):=by
 refine (Ob (U6 W g5 g6 g8 g9) w0 rs rs' ([],[]) ad n c l hn hv hS hp (by show (0+0+25600≤1000000);omega)).mono ?_
 rintro e w ⟨s',hs',rfl,hS⟩
 have h2:Dk (U6 W g5 g6 g8 g9).step (DA l 0 n) ([],[])=(0,P4 l n,LG l n):=Jy l n
 rw [h2] at hs'⊢
 rw [hE] at hs'⊢
 refine ⟨?_,s',hs',hS⟩
 by_cases h0:E=0
 ·rw [if_pos h0,h0]
 rw [if_neg h0]
def Sy(w0:World)(l:List Int)(n:Nat)(e:Ending)(w:World):Prop:=
 (BX l n=0→∃g1 g2,e= .returned (.tuple #[.slice (some ⟨g1,0,none⟩) 256 256, .slice (some ⟨g2,0,none⟩) 256 256, .int .i64 0])∧St w0 w [own 3 1 (some ⟨g1,0,none⟩) 256 256 ((Cn (P4 l n)).map (Value.int .i64)),own 3 1 (some ⟨g2,0,none⟩) 256 256 ((Cn (LG l n)).map (Value.int .i64))])∧
 (BX l n≠0→e= .returned (.tuple #[.slice none 0 0, .slice none 0 0, .int .i64 (BX l n)])∧Ai w0 w)
theorem E4(w0:World)(ad:Option Addr)(n c:Nat)(l:List Int)(hn:n≤9223372036854775807)(hv:Sl w0 64 (.slice ad n c) n (l.map (Value.int .i64))):
 Calls Tryz.prog 71 #[.slice ad n c] w0 (Sy w0 l n):=by
 have hS:=St.start w0
 obtain ⟨E,hE⟩:∃E,BX l n=E:=⟨_,rfl⟩
 have HE:=AD hE
 clear hE
 go_enter Tryz.func71,Tryz.ntmps71
 repeat' (first
  | refine X8 ?_|refine AG ?_;go_step|fail)
 apply Wy (rs:=fun g5 g6 g8 g9=>[TP g5 g6 g8 g9 ([],[])])
 ·refine AP [] (fun _=>True) AA ?_
  replace hS:=hS.drew
  focus
   refine BM [0,1,2,3] AA (by simp) (.cons Aj AA ?_ (.cons Aj AA ?_ (.cons Aj AA ?_ (.cons Aj AA ?_ (.nil)))))
   rotate_left 3
   focus
    refine Y3 ?_;clear hS;intro g6 w hS
    refine BM [0,1,2] AA (by simp) (.cons Aj AA ?_ (.cons Aj AA ?_ (.cons Aj AA ?_ (.nil))))
    rotate_left 2
    focus
     refine Y3 ?_;clear hS;intro g5 w hS
     refine BM [0,1] AA (by simp) (.cons Aj AA ?_ (.cons Aj AA ?_ (.nil)))
     rotate_left 1
     focus
      refine Y1 ?_;clear hS;intro g9 w hS
      refine Av 0 ?_
      refine Y1 ?_;clear hS;intro g8 w hS
      refine Av 4 ?_
      refine Y0 ?_;clear hS;intro w hS
      refine Av 5 ?_
      refine Y0 ?_;clear hS;intro w hS
      refine AE AA ?_ _
      exact ⟨rfl,g5,g6,g8,g9,rfl,St.close () (by dsimp only [List.cons_append,List.nil_append];rw [Az];exact hS.sub AV)⟩
     rotate_right 1
     focus
      refine Y1 ?_;clear hS;intro g8 w hS
      refine BM [1,4] AA (by simp) (.cons Aj AA ?_ (.cons Aj AA ?_ (.nil)))
      rotate_left 1
      focus
       refine Y0 ?_;clear hS;intro w hS
       refine Av 1 ?_
       refine Y1 ?_;clear hS;intro g9 w hS
       refine Av 5 ?_
       refine Y0 ?_;clear hS;intro w hS
       refine AE AA ?_ _
       exact ⟨rfl,g5,g6,g8,g9,rfl,St.close () (by dsimp only [List.cons_append,List.nil_append];rw [Az];exact hS.sub AV)⟩
      rotate_right 1
      focus
       refine Y1 ?_;clear hS;intro g9 w hS
       refine Av 4 ?_
       refine Y0 ?_;clear hS;intro w hS
       refine Av 5 ?_
       refine Y0 ?_;clear hS;intro w hS
       refine AE AA ?_ _
       exact ⟨rfl,g5,g6,g8,g9,rfl,St.close () (by dsimp only [List.cons_append,List.nil_append];rw [Az];exact hS.sub AV)⟩
    rotate_right 1
    focus
     refine Y1 ?_;clear hS;intro g9 w hS
     refine BM [0,2] AA (by simp) (.cons Aj AA ?_ (.cons Aj AA ?_ (.nil)))
     rotate_left 1
     focus
      refine Y3 ?_;clear hS;intro g5 w hS
      refine Av 0 ?_
      refine Y1 ?_;clear hS;intro g8 w hS
      refine Av 4 ?_
      refine Y0 ?_;clear hS;intro w hS
      refine Av 5 ?_
      refine Y0 ?_;clear hS;intro w hS
      refine AE AA ?_ _
      exact ⟨rfl,g5,g6,g8,g9,rfl,St.close () (by dsimp only [List.cons_append,List.nil_append];rw [Az];exact hS.sub AV)⟩
     rotate_right 1
     focus
      refine Y1 ?_;clear hS;intro g8 w hS
      refine Av 2 ?_
      refine Y3 ?_;clear hS;intro g5 w hS
      refine Av 4 ?_
      refine Y0 ?_;clear hS;intro w hS
      refine Av 5 ?_
      refine Y0 ?_;clear hS;intro w hS
      refine AE AA ?_ _
      exact ⟨rfl,g5,g6,g8,g9,rfl,St.close () (by dsimp only [List.cons_append,List.nil_append];rw [Az];exact hS.sub AV)⟩
    rotate_right 1
    focus
     refine Y1 ?_;clear hS;intro g8 w hS
     refine BM [1,2] AA (by simp) (.cons Aj AA ?_ (.cons Aj AA ?_ (.nil)))
     rotate_left 1
     focus
      refine Y3 ?_;clear hS;intro g5 w hS
      refine BM [1,4] AA (by simp) (.cons Aj AA ?_ (.cons Aj AA ?_ (.nil)))
      rotate_left 1
      focus
       refine Y0 ?_;clear hS;intro w hS
       refine Av 1 ?_
       refine Y1 ?_;clear hS;intro g9 w hS
       refine Av 5 ?_
       refine Y0 ?_;clear hS;intro w hS
       refine AE AA ?_ _
       exact ⟨rfl,g5,g6,g8,g9,rfl,St.close () (by dsimp only [List.cons_append,List.nil_append];rw [Az];exact hS.sub AV)⟩
      rotate_right 1
      focus
       refine Y1 ?_;clear hS;intro g9 w hS
       refine Av 4 ?_
       refine Y0 ?_;clear hS;intro w hS
       refine Av 5 ?_
       refine Y0 ?_;clear hS;intro w hS
       refine AE AA ?_ _
       exact ⟨rfl,g5,g6,g8,g9,rfl,St.close () (by dsimp only [List.cons_append,List.nil_append];rw [Az];exact hS.sub AV)⟩
     rotate_right 1
     focus
      refine Y1 ?_;clear hS;intro g9 w hS
      refine Av 2 ?_
      refine Y3 ?_;clear hS;intro g5 w hS
      refine Av 4 ?_
      refine Y0 ?_;clear hS;intro w hS
      refine Av 5 ?_
      refine Y0 ?_;clear hS;intro w hS
      refine AE AA ?_ _
      exact ⟨rfl,g5,g6,g8,g9,rfl,St.close () (by dsimp only [List.cons_append,List.nil_append];rw [Az];exact hS.sub AV)⟩
   rotate_right 1
   focus
    refine Y3 ?_;clear hS;intro g5 w hS
    refine BM [0,1,3] AA (by simp) (.cons Aj AA ?_ (.cons Aj AA ?_ (.cons Aj AA ?_ (.nil))))
    rotate_left 2
    focus
     refine Y3 ?_;clear hS;intro g6 w hS
     refine BM [0,1] AA (by simp) (.cons Aj AA ?_ (.cons Aj AA ?_ (.nil)))
     rotate_left 1
     focus
      refine Y1 ?_;clear hS;intro g9 w hS
      refine Av 0 ?_
      refine Y1 ?_;clear hS;intro g8 w hS
      refine Av 4 ?_
      refine Y0 ?_;clear hS;intro w hS
      refine Av 5 ?_
      refine Y0 ?_;clear hS;intro w hS
      refine AE AA ?_ _
      exact ⟨rfl,g5,g6,g8,g9,rfl,St.close () (by dsimp only [List.cons_append,List.nil_append];rw [Az];exact hS.sub AV)⟩
     rotate_right 1
     focus
      refine Y1 ?_;clear hS;intro g8 w hS
      refine BM [1,4] AA (by simp) (.cons Aj AA ?_ (.cons Aj AA ?_ (.nil)))
      rotate_left 1
      focus
       refine Y0 ?_;clear hS;intro w hS
       refine Av 1 ?_
       refine Y1 ?_;clear hS;intro g9 w hS
       refine Av 5 ?_
       refine Y0 ?_;clear hS;intro w hS
       refine AE AA ?_ _
       exact ⟨rfl,g5,g6,g8,g9,rfl,St.close () (by dsimp only [List.cons_append,List.nil_append];rw [Az];exact hS.sub AV)⟩
      rotate_right 1
      focus
       refine Y1 ?_;clear hS;intro g9 w hS
       refine Av 4 ?_
       refine Y0 ?_;clear hS;intro w hS
       refine Av 5 ?_
       refine Y0 ?_;clear hS;intro w hS
       refine AE AA ?_ _
       exact ⟨rfl,g5,g6,g8,g9,rfl,St.close () (by dsimp only [List.cons_append,List.nil_append];rw [Az];exact hS.sub AV)⟩
    rotate_right 1
    focus
     refine Y1 ?_;clear hS;intro g9 w hS
     refine BM [0,3] AA (by simp) (.cons Aj AA ?_ (.cons Aj AA ?_ (.nil)))
     rotate_left 1
     focus
      refine Y3 ?_;clear hS;intro g6 w hS
      refine Av 0 ?_
      refine Y1 ?_;clear hS;intro g8 w hS
      refine Av 4 ?_
      refine Y0 ?_;clear hS;intro w hS
      refine Av 5 ?_
      refine Y0 ?_;clear hS;intro w hS
      refine AE AA ?_ _
      exact ⟨rfl,g5,g6,g8,g9,rfl,St.close () (by dsimp only [List.cons_append,List.nil_append];rw [Az];exact hS.sub AV)⟩
     rotate_right 1
     focus
      refine Y1 ?_;clear hS;intro g8 w hS
      refine Av 3 ?_
      refine Y3 ?_;clear hS;intro g6 w hS
      refine Av 4 ?_
      refine Y0 ?_;clear hS;intro w hS
      refine Av 5 ?_
      refine Y0 ?_;clear hS;intro w hS
      refine AE AA ?_ _
      exact ⟨rfl,g5,g6,g8,g9,rfl,St.close () (by dsimp only [List.cons_append,List.nil_append];rw [Az];exact hS.sub AV)⟩
    rotate_right 1
    focus
     refine Y1 ?_;clear hS;intro g8 w hS
     refine BM [1,3] AA (by simp) (.cons Aj AA ?_ (.cons Aj AA ?_ (.nil)))
     rotate_left 1
     focus
      refine Y3 ?_;clear hS;intro g6 w hS
      refine BM [1,4] AA (by simp) (.cons Aj AA ?_ (.cons Aj AA ?_ (.nil)))
      rotate_left 1
      focus
       refine Y0 ?_;clear hS;intro w hS
       refine Av 1 ?_
       refine Y1 ?_;clear hS;intro g9 w hS
       refine Av 5 ?_
       refine Y0 ?_;clear hS;intro w hS
       refine AE AA ?_ _
       exact ⟨rfl,g5,g6,g8,g9,rfl,St.close () (by dsimp only [List.cons_append,List.nil_append];rw [Az];exact hS.sub AV)⟩
      rotate_right 1
      focus
       refine Y1 ?_;clear hS;intro g9 w hS
       refine Av 4 ?_
       refine Y0 ?_;clear hS;intro w hS
       refine Av 5 ?_
       refine Y0 ?_;clear hS;intro w hS
       refine AE AA ?_ _
       exact ⟨rfl,g5,g6,g8,g9,rfl,St.close () (by dsimp only [List.cons_append,List.nil_append];rw [Az];exact hS.sub AV)⟩
     rotate_right 1
     focus
      refine Y1 ?_;clear hS;intro g9 w hS
      refine Av 3 ?_
      refine Y3 ?_;clear hS;intro g6 w hS
      refine Av 4 ?_
      refine Y0 ?_;clear hS;intro w hS
      refine Av 5 ?_
      refine Y0 ?_;clear hS;intro w hS
      refine AE AA ?_ _
      exact ⟨rfl,g5,g6,g8,g9,rfl,St.close () (by dsimp only [List.cons_append,List.nil_append];rw [Az];exact hS.sub AV)⟩
   rotate_right 1
   focus
    refine Y1 ?_;clear hS;intro g9 w hS
    refine BM [0,2,3] AA (by simp) (.cons Aj AA ?_ (.cons Aj AA ?_ (.cons Aj AA ?_ (.nil))))
    rotate_left 2
    focus
     refine Y3 ?_;clear hS;intro g6 w hS
     refine BM [0,2] AA (by simp) (.cons Aj AA ?_ (.cons Aj AA ?_ (.nil)))
     rotate_left 1
     focus
      refine Y3 ?_;clear hS;intro g5 w hS
      refine Av 0 ?_
      refine Y1 ?_;clear hS;intro g8 w hS
      refine Av 4 ?_
      refine Y0 ?_;clear hS;intro w hS
      refine Av 5 ?_
      refine Y0 ?_;clear hS;intro w hS
      refine AE AA ?_ _
      exact ⟨rfl,g5,g6,g8,g9,rfl,St.close () (by dsimp only [List.cons_append,List.nil_append];rw [Az];exact hS.sub AV)⟩
     rotate_right 1
     focus
      refine Y1 ?_;clear hS;intro g8 w hS
      refine Av 2 ?_
      refine Y3 ?_;clear hS;intro g5 w hS
      refine Av 4 ?_
      refine Y0 ?_;clear hS;intro w hS
      refine Av 5 ?_
      refine Y0 ?_;clear hS;intro w hS
      refine AE AA ?_ _
      exact ⟨rfl,g5,g6,g8,g9,rfl,St.close () (by dsimp only [List.cons_append,List.nil_append];rw [Az];exact hS.sub AV)⟩
    rotate_right 1
    focus
     refine Y3 ?_;clear hS;intro g5 w hS
     refine BM [0,3] AA (by simp) (.cons Aj AA ?_ (.cons Aj AA ?_ (.nil)))
     rotate_left 1
     focus
      refine Y3 ?_;clear hS;intro g6 w hS
      refine Av 0 ?_
      refine Y1 ?_;clear hS;intro g8 w hS
      refine Av 4 ?_
      refine Y0 ?_;clear hS;intro w hS
      refine Av 5 ?_
      refine Y0 ?_;clear hS;intro w hS
      refine AE AA ?_ _
      exact ⟨rfl,g5,g6,g8,g9,rfl,St.close () (by dsimp only [List.cons_append,List.nil_append];rw [Az];exact hS.sub AV)⟩
     rotate_right 1
     focus
      refine Y1 ?_;clear hS;intro g8 w hS
      refine Av 3 ?_
      refine Y3 ?_;clear hS;intro g6 w hS
      refine Av 4 ?_
      refine Y0 ?_;clear hS;intro w hS
      refine Av 5 ?_
      refine Y0 ?_;clear hS;intro w hS
      refine AE AA ?_ _
      exact ⟨rfl,g5,g6,g8,g9,rfl,St.close () (by dsimp only [List.cons_append,List.nil_append];rw [Az];exact hS.sub AV)⟩
    rotate_right 1
    focus
     refine Y1 ?_;clear hS;intro g8 w hS
     refine BM [2,3] AA (by simp) (.cons Aj AA ?_ (.cons Aj AA ?_ (.nil)))
     rotate_left 1
     focus
      refine Y3 ?_;clear hS;intro g6 w hS
      refine Av 2 ?_
      refine Y3 ?_;clear hS;intro g5 w hS
      refine Av 4 ?_
      refine Y0 ?_;clear hS;intro w hS
      refine Av 5 ?_
      refine Y0 ?_;clear hS;intro w hS
      refine AE AA ?_ _
      exact ⟨rfl,g5,g6,g8,g9,rfl,St.close () (by dsimp only [List.cons_append,List.nil_append];rw [Az];exact hS.sub AV)⟩
     rotate_right 1
     focus
      refine Y3 ?_;clear hS;intro g5 w hS
      refine Av 3 ?_
      refine Y3 ?_;clear hS;intro g6 w hS
      refine Av 4 ?_
      refine Y0 ?_;clear hS;intro w hS
      refine Av 5 ?_
      refine Y0 ?_;clear hS;intro w hS
      refine AE AA ?_ _
      exact ⟨rfl,g5,g6,g8,g9,rfl,St.close () (by dsimp only [List.cons_append,List.nil_append];rw [Az];exact hS.sub AV)⟩
   rotate_right 1
   focus
    refine Y1 ?_;clear hS;intro g8 w hS
    refine BM [1,2,3] AA (by simp) (.cons Aj AA ?_ (.cons Aj AA ?_ (.cons Aj AA ?_ (.nil))))
    rotate_left 2
    focus
     refine Y3 ?_;clear hS;intro g6 w hS
     refine BM [1,2] AA (by simp) (.cons Aj AA ?_ (.cons Aj AA ?_ (.nil)))
     rotate_left 1
     focus
      refine Y3 ?_;clear hS;intro g5 w hS
      refine BM [1,4] AA (by simp) (.cons Aj AA ?_ (.cons Aj AA ?_ (.nil)))
      rotate_left 1
      focus
       refine Y0 ?_;clear hS;intro w hS
       refine Av 1 ?_
       refine Y1 ?_;clear hS;intro g9 w hS
       refine Av 5 ?_
       refine Y0 ?_;clear hS;intro w hS
       refine AE AA ?_ _
       exact ⟨rfl,g5,g6,g8,g9,rfl,St.close () (by dsimp only [List.cons_append,List.nil_append];rw [Az];exact hS.sub AV)⟩
      rotate_right 1
      focus
       refine Y1 ?_;clear hS;intro g9 w hS
       refine Av 4 ?_
       refine Y0 ?_;clear hS;intro w hS
       refine Av 5 ?_
       refine Y0 ?_;clear hS;intro w hS
       refine AE AA ?_ _
       exact ⟨rfl,g5,g6,g8,g9,rfl,St.close () (by dsimp only [List.cons_append,List.nil_append];rw [Az];exact hS.sub AV)⟩
     rotate_right 1
     focus
      refine Y1 ?_;clear hS;intro g9 w hS
      refine Av 2 ?_
      refine Y3 ?_;clear hS;intro g5 w hS
      refine Av 4 ?_
      refine Y0 ?_;clear hS;intro w hS
      refine Av 5 ?_
      refine Y0 ?_;clear hS;intro w hS
      refine AE AA ?_ _
      exact ⟨rfl,g5,g6,g8,g9,rfl,St.close () (by dsimp only [List.cons_append,List.nil_append];rw [Az];exact hS.sub AV)⟩
    rotate_right 1
    focus
     refine Y3 ?_;clear hS;intro g5 w hS
     refine BM [1,3] AA (by simp) (.cons Aj AA ?_ (.cons Aj AA ?_ (.nil)))
     rotate_left 1
     focus
      refine Y3 ?_;clear hS;intro g6 w hS
      refine BM [1,4] AA (by simp) (.cons Aj AA ?_ (.cons Aj AA ?_ (.nil)))
      rotate_left 1
      focus
       refine Y0 ?_;clear hS;intro w hS
       refine Av 1 ?_
       refine Y1 ?_;clear hS;intro g9 w hS
       refine Av 5 ?_
       refine Y0 ?_;clear hS;intro w hS
       refine AE AA ?_ _
       exact ⟨rfl,g5,g6,g8,g9,rfl,St.close () (by dsimp only [List.cons_append,List.nil_append];rw [Az];exact hS.sub AV)⟩
      rotate_right 1
      focus
       refine Y1 ?_;clear hS;intro g9 w hS
       refine Av 4 ?_
       refine Y0 ?_;clear hS;intro w hS
       refine Av 5 ?_
       refine Y0 ?_;clear hS;intro w hS
       refine AE AA ?_ _
       exact ⟨rfl,g5,g6,g8,g9,rfl,St.close () (by dsimp only [List.cons_append,List.nil_append];rw [Az];exact hS.sub AV)⟩
     rotate_right 1
     focus
      refine Y1 ?_;clear hS;intro g9 w hS
      refine Av 3 ?_
      refine Y3 ?_;clear hS;intro g6 w hS
      refine Av 4 ?_
      refine Y0 ?_;clear hS;intro w hS
      refine Av 5 ?_
      refine Y0 ?_;clear hS;intro w hS
      refine AE AA ?_ _
      exact ⟨rfl,g5,g6,g8,g9,rfl,St.close () (by dsimp only [List.cons_append,List.nil_append];rw [Az];exact hS.sub AV)⟩
    rotate_right 1
    focus
     refine Y1 ?_;clear hS;intro g9 w hS
     refine BM [2,3] AA (by simp) (.cons Aj AA ?_ (.cons Aj AA ?_ (.nil)))
     rotate_left 1
     focus
      refine Y3 ?_;clear hS;intro g6 w hS
      refine Av 2 ?_
      refine Y3 ?_;clear hS;intro g5 w hS
      refine Av 4 ?_
      refine Y0 ?_;clear hS;intro w hS
      refine Av 5 ?_
      refine Y0 ?_;clear hS;intro w hS
      refine AE AA ?_ _
      exact ⟨rfl,g5,g6,g8,g9,rfl,St.close () (by dsimp only [List.cons_append,List.nil_append];rw [Az];exact hS.sub AV)⟩
     rotate_right 1
     focus
      refine Y3 ?_;clear hS;intro g5 w hS
      refine Av 3 ?_
      refine Y3 ?_;clear hS;intro g6 w hS
      refine Av 4 ?_
      refine Y0 ?_;clear hS;intro w hS
      refine Av 5 ?_
      refine Y0 ?_;clear hS;intro w hS
      refine AE AA ?_ _
      exact ⟨rfl,g5,g6,g8,g9,rfl,St.close () (by dsimp only [List.cons_append,List.nil_append];rw [Az];exact hS.sub AV)⟩
 clear hS
 intro g5 g6 g8 g9 w hS
 by_cases hE0:E=0
 ·subst hE0
  repeat' (first
   | refine dt 11 ?_|(refine AQ 12 ?_);refine AM (f:=100) Tryz.call100 AA ?_;refine ⟨_,(Rf w0 w _ _ g5 g6 g8 g9 ad n c l 0 HE.out hn hv hS AT.head),?_⟩;clear hS;rintro e w ⟨rfl,s',hs',hS⟩;obtain rfl:=hs' rfl;clear hs';refine Ac ?_;go_step|refine X0 ?_|refine X4 ?_|refine AG ?_;go_step|fail)
  all_goals (try exact AR)
  obtain ⟨_,hS⟩:=(hS.pull AT.head).open
  dsimp only [List.cons_append,List.nil_append] at hS
  refine AP [] (fun w=>St w0 w [blk g5 [.slice (some ⟨g8,0,none⟩) 256 256],blk g6 [.slice (some ⟨g9,0,none⟩) 256 256]]) AA ?_
  replace hS:=hS.drew
  focus
   refine fS 0 [2,3,4] ?_
   refine fS 1 [3,4] ?_
   refine AZ 2 ?_
   refine AZ 3 ?_
   refine AZ 4 ?_
   refine AE AA ?_ _
  all_goals
   repeat' (first|(refine AG ?_;go_step)|fail)
   refine AK (xs:=[_,_,_]) rfl (.cons (AC.tmp rfl) (.cons (AC.tmp rfl) (.cons (AC.tmp rfl) (.nil)))) (by simp) rfl ?_
   exact ⟨fun _=>⟨g8,g9,rfl,hS.sub AV⟩,fun h=>absurd HE.out h⟩
 repeat' (first
  | refine dt 11 ?_|(refine AQ 12 ?_);refine AM (f:=100) Tryz.call100 AA ?_;refine ⟨_,(Rf w0 w _ _ g5 g6 g8 g9 ad n c l E HE.out hn hv hS AT.head),?_⟩;clear hS;rintro e w ⟨rfl,s',hs',hS⟩;clear hs';refine Ac ?_;go_step|refine X0 ?_|refine X4 ?_|refine AG ?_;go_step|fail)
 all_goals (try exact AR)
 refine AK (xs:=[_,_,_]) rfl (.cons (AC.tmp rfl) (.cons (AC.tmp rfl) (.cons (AC.tmp rfl) (.nil)))) (by simp) rfl ?_
 exact ⟨fun h=>absurd (HE.out.symm.trans h) hE0,fun _=>⟨by rw [HE.out];rfl,hS.1⟩⟩
theorem WR{C1 S1 C2 S2 l:List Int}{n:Nat}(hl:l.length=n*64)(h:Cg C1 S1 C2 S2 l n=0):
 ∃cc:List Nat,(∀x∈cc,x<256)∧C6 C1 S1 C2 S2 l n=Dg (Fo cc)∧(C6 C1 S1 C2 S2 l n).length≤300000:=by
 have ht:D4 C1 S1 C2 S2=0:=by
  unfold Cg at h
  by_cases h1:D4 C1 S1 C2 S2=0
  ·exact h1
  rw [if_neg h1] at h;exact absurd h h1
 have hb:BX l n=0:=by
  unfold Cg at h
  rw [if_pos ht] at h
  by_cases h1:BX l n=0
  ·exact h1
  rw [if_neg h1] at h;exact absurd h h1
 have ht1:Ay C1 S1=0:=by
  unfold D4 at ht
  by_cases h1:Ay C1 S1=0
  ·exact h1
  rw [if_neg h1] at ht;exact absurd ht h1
 have ht2:Ay C2 S2=0:=by unfold D4 at ht;rw [if_pos ht1] at ht;exact ht
 have hlen:=Jc ht1 ht2 hl (H9 hb)
 have e:C6 C1 S1 C2 S2 l n=Dg (Fo (bytesOf (Bm C1 S1 C2 S2 l n))):=by unfold C6;rw [if_pos h]
 refine ⟨_,EO _,e,?_⟩
 rw [e,J8]
 have h1:=List.count_le_length (a:=(255:Int)) (l:=Fo (bytesOf (Bm C1 S1 C2 S2 l n)))
 have h2:(Fo (bytesOf (Bm C1 S1 C2 S2 l n))).length=((Bm C1 S1 C2 S2 l n).length+7)/8:=by unfold Fo;rw [List.length_map,En]
 omega
theorem WP{C1 S1 C2 S2 l:List Int}{n:Nat}(h:Cg C1 S1 C2 S2 l n≠0):C6 C1 S1 C2 S2 l n=[]:=by unfold C6;rw [if_neg h]
theorem PZ(n every:Nat):∀f at_,∀x∈Cm n every f at_,x.1≤x.2∧x.2≤n
 | 0,_,x,hx=>by simp [Cm] at hx
 | f+1,at_,x,hx=>by
   unfold Cm at hx
   by_cases h0:at_<n
   ·rw [if_pos h0] at hx
    rcases List.mem_cons.1 hx with rfl|hx
    ·dsimp only;omega
    exact PZ n every f _ x hx
   rw [if_neg h0] at hx;cases hx
theorem Sa(n every:Nat):∀x∈A5 n every,x.1≤x.2∧x.2≤n:=by
 intro x hx
 unfold A5 at hx
 by_cases h:every=0∨n=0
 ·rw [if_pos h] at hx;simp at hx;subst hx;dsimp only;omega
 rw [if_neg h] at hx;exact PZ n every n 0 x hx
theorem Mc(n every:Nat)(h:0<every):∀f at_,(Cm n every f at_).length≤n-at_
 | 0,_=>by simp [Cm]
 | f+1,at_=>by
   unfold Cm
   by_cases h0:at_<n
   ·rw [if_pos h0,List.length_cons]
    have:=Mc n every h f (at_+every)
    omega
   rw [if_neg h0];simp
theorem Pb(n every:Nat):(A5 n every).length≤n+1:=by
 unfold A5
 by_cases h:every=0∨n=0
 ·rw [if_pos h];simp
 rw [if_neg h]
 have:=Mc n every (by omega) n 0
 omega
def Ap(l:List Int)(f t:Nat):List Int:=(l.drop (f*64)).take ((t-f)*64)
def GV(C1 S1 C2 S2 l:List Int):List (Nat×Nat)→Nat→Int×List Int
 | [],_=>(0,[])
 | x::L,k=>if Cg C1 S1 C2 S2 (Ap l x.1 x.2) (x.2-x.1)≠0 then (Cg C1 S1 C2 S2 (Ap l x.1 x.2) (x.2-x.1),[]) else
   ((GV C1 S1 C2 S2 l L (k+1)).1,(if k=0 then [] else [255,((208+(k-1)%8:Nat):Int)])++(C6 C1 S1 C2 S2 (Ap l x.1 x.2) (x.2-x.1)++(GV C1 S1 C2 S2 l L (k+1)).2))
def Fk(C1 S1 C2 S2 l:List Int)(n:Nat)(every:Int):Int×List Int:=
 if 0≤every∧every≤100 then if D4 C1 S1 C2 S2=0 then if BX l n=0 then
  if (GV C1 S1 C2 S2 l (A5 n every.toNat) 0).1=0 then GV C1 S1 C2 S2 l (A5 n every.toNat) 0 else ((GV C1 S1 C2 S2 l (A5 n every.toNat) 0).1,[])
 else (BX l n,[]) else (D4 C1 S1 C2 S2,[]) else (1,[])
structure KJ(p:Prop):Prop where
 out:p
theorem GC(w0:World)(C1 C2 S1 S2:List Int)(a1 a2:Option Addr)(n1 n2 k1 k2:Nat)(hC1:Al C1 16)(hC2:Al C2 16)(hs1:Sl w0 1 (.slice a1 n1 k1) n1 (S1.map (Value.int .i64)))(hs2:Sl w0 1 (.slice a2 n2 k2) n2 (S2.map (Value.int .i64)))(hn1:n1≤9223372036854775807)(hn2:n2≤9223372036854775807)(ad:Option Addr)(n c:Nat)(l:List Int)(hn:n≤9223372036854775807)(hv:Sl w0 64 (.slice ad n c) n (l.map (Value.int .i64)))(every:Int):
 Calls Tryz.prog 42 #[.agg (AF [.ints C1, .val (.slice a1 n1 k1), .ints C2, .val (.slice a2 n2 k2)]).toArray, .slice ad n c, .int .i64 every] w0 (P5 w0 (Fk C1 S1 C2 S2 l n every).1 (Fk C1 S1 C2 S2 l n every).2):=by
 have hl:l.length=n*64:=by have:=hv.1;simpa using this
 have hnc:n≤c:=by
  obtain ⟨_,a',c',e,h1,_⟩:=hv
  cases e;exact h1
 have HLl:=AD hl
 have hS:=St.start w0
 have hL1:=AD (Dr C1 (.slice a1 n1 k1) hC1)
 have hL2:=AD (Dr C2 (.slice a2 n2 k2) hC2)
 obtain ⟨E1,hE1⟩:∃x,Ay C1 S1=x:=⟨_,rfl⟩
 obtain ⟨E2,hE2⟩:∃x,Ay C2 S2=x:=⟨_,rfl⟩
 have HE1:=AD hE1
 have HE2:=AD hE2
 have HT:=AD (show D4 C1 S1 C2 S2=if E1=0 then E2 else E1 by unfold D4;rw [hE1,hE2])
 clear hE1 hE2 hl
 by_cases hev:0≤every∧every≤100
 case neg=>
  have HP:=AD (show Fk C1 S1 C2 S2 l n every=(1,[]) by unfold Fk;rw [if_neg hev])
  have hbad:every<0∨100<every:=by omega
  clear hev
  rcases hbad with h|h
  all_goals
   go_enter Tryz.func42,Tryz.ntmps42
   repeat' (first
    | go_skip|((first|(with_reducible refine Io ?_)|(with_reducible refine QC ?_));(first|go_big_want|go_step);go_step)|((with_reducible refine Ak _ (.pick _ _ _) ?_);first|(refine A6 rfl AA ?_;go_step)|(refine A3 rfl AA ?_;go_step))|((refine AQ 20 ?_);(refine CG _ (V.lss rfl rfl) AA (fun hB=>?_) (fun hB=>?_)<;>(try exact AR)<;>go_step))|((with_reducible refine Ak _ (.binOp .gtr _ _ _ _) ?_);(refine An AA (V.gtr rfl rfl) ?_;go_step))|((refine AQ 3 ?_);(refine Ad ?_;apply Ig (o:=⟨some 3,_,_,_,_,_⟩) hS 34 _ rfl _ rfl;clear hS;intro g3 w hS;refine AB ?_;go_step))|(refine AG ?_;go_step)|fail)
   all_goals (try exact AR)
   all_goals
    refine AK (xs:=[_,_]) rfl (.cons (AC.tmp rfl) (.cons (AC.tmp rfl) (.nil))) (by simp) rfl ?_
    exact Er 1 (by rw [HP.out]) (by rw [HP.out]) hS.1
 obtain ⟨Ev,rfl⟩:∃N:Nat,every=(N:Int):=⟨every.toNat,by omega⟩
 have HP:=AD (show Fk C1 S1 C2 S2 l n Ev=if D4 C1 S1 C2 S2=0 then if BX l n=0 then if (GV C1 S1 C2 S2 l (A5 n Ev) 0).1=0 then GV C1 S1 C2 S2 l (A5 n Ev) 0 else ((GV C1 S1 C2 S2 l (A5 n Ev) 0).1,[]) else (BX l n,[]) else (D4 C1 S1 C2 S2,[]) by unfold Fk;rw [if_pos hev,Int.toNat_natCast])
 go_enter Tryz.func42,Tryz.ntmps42
 repeat' (first
  | refine X0 ?_|refine H7 ?_|refine Ei 20 ?_ ?_<;>intro hB<;>(try exact AR)<;>go_step|refine H3 ?_|refine OI 3 ?_;clear hS;intro g3 w hS|refine AG ?_;go_step|fail)
 all_goals (try exact AR)
 repeat' (first
  | (refine AQ 29 ?_);refine Ad ?_;refine AU (o:=⟨some 29,_,_,_,_,_⟩) hS 115 2 _ rfl 32 17 152 Od _ _ (AW.agg rfl hL1.out (AW.agg rfl hL2.out AW.nil)) rfl (by decide) (by decide) ?_;clear hS;intro g29 w hS;replace hS:=Ia hS;refine AB ?_;go_step|refine X1 ?_|refine cy ?_|refine cz ?_|refine Ui ?_|refine Lk ?_|refine AG ?_;go_step|fail)
 clear hL1 hL2
 go_loopg [31] 2 (fun gk kv w=>∃k:Nat,gk+k=2∧kv= .int .i64 k∧(1≤k→E1=0)∧(2≤k→E2=0)∧St w0 w [prt g3 [.ints C1, .val (.slice a1 n1 k1), .ints C2, .val (.slice a2 n2 k2)],prt g29 [.ints C1, .val (.slice a1 n1 k1), .ints C2, .val (.slice a2 n2 k2)]])
 case atStart=>exact ⟨0,rfl,rfl,fun h=>absurd h (by omega),fun h=>absurd h (by omega),hS.sub AV⟩
 case round=>
  clear hS
  obtain ⟨k,hk,rfl,HA,HB,hS⟩:=hrel
  by_cases hlt:k<2
  ·obtain rfl|rfl:k=0∨k=1:=by omega
   ·clear HA HB
    repeat' (first
     | (refine As 73 ?_);refine At AA Tryz.call73 (CY _ C1 S1 a1 n1 k1 hC1 (hs1.ext hS.1) hn1) ?_;rintro e w ⟨rfl,hE2⟩;rw [HE1.out];replace hS:=hS.ext hE2;clear hE2;refine Ac ?_;go_step|refine X0 ?_|refine X2 ?_|refine XI 33 ?_|refine X4 ?_|refine X7 ?_|refine Lk ?_|refine RS 9 ?_;clear hS;intro g9 w hS|refine S9 ?_;clear hS;intro w hS|refine AG ?_;go_step|fail)
    ·have h9:Fk C1 S1 C2 S2 l n Ev=(E1,[]):=by rw [HP.out,HT.out,if_neg (show ¬E1=0 by omega),if_neg (by omega)]
     refine AK (xs:=[_,_]) rfl (.cons (AC.tmp rfl) (.cons (AC.tmp rfl) (.nil))) (by simp) rfl ?_
     exact Er E1 (by rw [h9]) (by rw [h9]) hS.1
    go_roundg (gk-1)
    case measure=>omega
    case rel=>exact ⟨1,by omega,rfl,fun _=>by omega,fun h=>absurd h (by omega),hS.sub AV⟩
   have h1:=HA (by omega)
   subst h1
   clear HA HB
   repeat' (first
    | (refine As 73 ?_);refine At AA Tryz.call73 (CY _ C2 S2 a2 n2 k2 hC2 (hs2.ext hS.1) hn2) ?_;rintro e w ⟨rfl,hE2⟩;rw [HE2.out];replace hS:=hS.ext hE2;clear hE2;refine Ac ?_;go_step|refine X0 ?_|refine X2 ?_|refine XI 33 ?_|refine X4 ?_|refine X7 ?_|refine Lk ?_|refine RS 9 ?_;clear hS;intro g9 w hS|refine S9 ?_;clear hS;intro w hS|refine AG ?_;go_step|fail)
   ·have h9:Fk C1 S1 C2 S2 l n Ev=(E2,[]):=by rw [HP.out,HT.out,if_pos rfl,if_neg (by omega)]
    refine AK (xs:=[_,_]) rfl (.cons (AC.tmp rfl) (.cons (AC.tmp rfl) (.nil))) (by simp) rfl ?_
    exact Er E2 (by rw [h9]) (by rw [h9]) hS.1
   go_roundg (gk-1)
   case measure=>omega
   case rel=>exact ⟨2,by omega,rfl,fun _=>rfl,fun _=>by omega,hS.sub AV⟩
  obtain rfl:k=2:=by omega
  have h1:=HA (by omega)
  have h2:=HB (by omega)
  subst h1;subst h2
  clear HA HB
  have HP2:=AD (show Fk C1 S1 C2 S2 l n Ev=if BX l n=0 then if (GV C1 S1 C2 S2 l (A5 n Ev) 0).1=0 then GV C1 S1 C2 S2 l (A5 n Ev) 0 else ((GV C1 S1 C2 S2 l (A5 n Ev) 0).1,[]) else (BX l n,[]) by rw [HP.out,HT.out,if_pos rfl,if_pos rfl])
  clear HP
  by_cases hbk:BX l n=0
  case neg=>
   obtain ⟨E,hE⟩:∃E,BX l n=E:=⟨_,rfl⟩
   have h0:E≠0:=by rw [←hE];exact hbk
   have HE:=AD hE
   have HP3:=AD (show Fk C1 S1 C2 S2 l n Ev=(E,[]) by rw [HP2.out,if_neg hbk,hE])
   clear hbk hE
   repeat' (first
    | refine X1 ?_|refine X2 ?_|refine AG ?_;go_step|fail)
   repeat' (first
    | (refine AQ 43 ?_);refine AM (f:=71) Tryz.call71 AA ?_;refine ⟨_,(E4 _ ad n c l hn (hv.ext hS.1)),?_⟩;rintro e w ⟨_,hq⟩;rw [HE.out] at hq;obtain ⟨rfl,hE2⟩:=hq h0;clear hq;replace hS:=hS.ext hE2;clear hE2;refine Ac ?_;go_step|refine X0 ?_|refine X6 ?_|refine X4 ?_|refine AG ?_;go_step|fail)
   all_goals (try exact AR)
   refine AK (xs:=[_,_]) rfl (.cons (AC.tmp rfl) (.cons (AC.tmp rfl) (.nil))) (by simp) rfl ?_
   exact Er E (by rw [HP3.out]) (by rw [HP3.out]) hS.1
  have HBK:=AD hbk
  have hn4:=H9 hbk
  obtain ⟨M,hM⟩:∃M,(A5 n Ev).length=M:=⟨_,rfl⟩
  have hM4:M≤401:=by rw [←hM];have:=Pb n Ev;omega
  have HM:=AD hM
  obtain ⟨D,hD⟩:∃D,GV C1 S1 C2 S2 l (A5 n Ev) 0=D:=⟨_,rfl⟩
  have HP3:=AD (show Fk C1 S1 C2 S2 l n Ev=if D.1=0 then D else (D.1,[]) by rw [HP2.out,if_pos hbk,hD])
  have HD:=AD hD
  clear hbk hD hM HP2
  repeat' (first
   | refine X1 ?_|refine X2 ?_|refine AG ?_;go_step|fail)
  repeat' (first
   | (refine AQ 43 ?_);refine AM (f:=71) Tryz.call71 AA ?_;refine ⟨_,(E4 _ ad n c l hn (hv.ext hS.1)),?_⟩;rintro e w ⟨hq,_⟩;obtain ⟨g1,g2,rfl,hS2⟩:=hq HBK.out;clear hq;replace hS:=hS.ext hS2.1;clear hS2;refine Ac ?_;go_step|refine X0 ?_|refine X6 ?_|refine X4 ?_|refine AG ?_;go_step|fail)
  all_goals (try exact AR)
  repeat' (first
   | (refine AQ 53 ?_);refine AM (f:=50) Tryz.call50 AA ?_;refine ⟨_,(EI _ n Ev (by omega) (by omega)),?_⟩;rintro e w ⟨a3,c3,m3,hm3,rfl,hS2⟩;obtain rfl:M=m3:=(by rw [←hm3];exact HM.out.symm);clear hm3;replace hS:=hS.call1 hS2;clear hS2;refine Ac ?_;go_step|refine X1 ?_|refine XD ?_|refine cx ?_|refine AG ?_;go_step|fail)
  replace hS:=hS.nilk 5 1 .u8
  clear hk
  go_loopg [14,55] M (fun gk ov kv w=>∃(k m:Nat) (acc:List Int) (ao:Option Addr) (co:Nat),gk+k=M∧kv= .int .i64 k∧ov= .slice ao m co∧m≤300002*k∧Hid (acc.length=m)∧KJ (D=((GV C1 S1 C2 S2 l ((A5 n Ev).drop k) k).1,acc++(GV C1 S1 C2 S2 l ((A5 n Ev).drop k) k).2))∧St w0 w [own 5 1 ao m co (acc.map (Value.int .u8)),prt g3 [.ints C1, .val (.slice a1 n1 k1), .ints C2, .val (.slice a2 n2 k2)],own 94 2 a3 M c3 ((OC (A5 n Ev)).map (Value.int .i64))])
  case atStart=>exact ⟨0,0,[],none,0,by omega,rfl,rfl,by omega,AD rfl,⟨by rw [←HD.out];rfl⟩,hS.sub AV⟩
  case round=>
   clear hS
   obtain ⟨k,m,acc,ao,co,hk,rfl,rfl,hm4,HQ,HV,hS⟩:=hrel
   by_cases hlt:k<M
   ·obtain ⟨⟨f,t⟩,hx⟩:∃x,(A5 n Ev)[k]? =some x:=⟨_,List.getElem?_eq_getElem (by rw [HM.out];exact hlt)⟩
    have hft:=Sa n Ev _ (List.mem_of_getElem? hx)
    dsimp only at hft
    have hseg:=IV (A5 n Ev) k _ hx
    dsimp only at hseg
    have hd1:(A5 n Ev).drop k=(f,t)::(A5 n Ev).drop (k+1):=by
     rw [List.drop_eq_getElem_cons (by rw [HM.out];exact hlt)]
     rw [List.getElem?_eq_getElem (by rw [HM.out];exact hlt)] at hx
     rw [Option.some.inj hx]
    obtain ⟨E,hE⟩:∃E,Cg C1 S1 C2 S2 (Ap l f t) (t-f)=E:=⟨_,rfl⟩
    obtain ⟨B,hB⟩:∃B,C6 C1 S1 C2 S2 (Ap l f t) (t-f)=B:=⟨_,rfl⟩
    have hsl:(Ap l f t).length=(t-f)*64:=by
     unfold Ap
     rw [List.length_take,List.length_drop,HLl.out]
     have h1:(t-f)*64≤n*64-f*64:=by rw [←Nat.sub_mul];exact Nat.mul_le_mul_right 64 (by omega)
     omega
    have hBl:B.length≤300000:=by
     by_cases h:Cg C1 S1 C2 S2 (Ap l f t) (t-f)=0
     ·obtain ⟨_,_,_,h3⟩:=WR hsl h;rw [←hB];exact h3
     rw [←hB,WP h];simp
    have hcc:=hv.cutAt f t hft.1 hft.2
    rw [show ((l.map (Value.int .i64)).drop (f*64)).take ((t-f)*64)=(Ap l f t).map (Value.int .i64) by unfold Ap;simp] at hcc
    have hstep:KJ (GV C1 S1 C2 S2 l ((A5 n Ev).drop k) k=if E≠0 then (E,[]) else ((GV C1 S1 C2 S2 l ((A5 n Ev).drop (k+1)) (k+1)).1,(if k=0 then [] else [255,((208+(k-1)%8:Nat):Int)])++(B++(GV C1 S1 C2 S2 l ((A5 n Ev).drop (k+1)) (k+1)).2))):=⟨by rw [hd1,GV];simp only [hE,hB]⟩
    have HE:=AD hE
    have HB:=AD hB
    obtain ⟨mB,hmB⟩:∃x,B.length=x:=⟨_,rfl⟩
    rw [hmB] at hBl
    have HMB:=AD hmB
    obtain ⟨g5,rfl⟩:=Ba (a:=a3) hS AL (by omega)
    clear hx hd1 hE hB hsl hmB
    by_cases hk0:k=0
    ·obtain ⟨acc1,hA1⟩:∃a,acc++(if k=0 then [] else [255,((208+(k-1)%8:Nat):Int)])=a:=⟨_,rfl⟩
     have hA2:acc=acc1:=by rw [←hA1,if_pos hk0,List.append_nil]
     have HA1:=AD hA1
     have HL1:=AD (show acc1.length=m by rw [←hA2];exact HQ.out)
     repeat' (first
      | refine X0 ?_|refine X2 ?_|refine S8 58 ?_|refine H3 ?_|refine dB ?_|refine ch 16 ?_;clear hS;intro g16 w hS|refine ct ?_;clear hS;intro w hS|refine AG ?_;go_step|fail)
     all_goals (try exact AR)
     replace hS:St w0 w [blk g16 [.int .i64 (f:Nat), .int .i64 (t:Nat)],own 5 1 ao m co (acc.map (Value.int .u8)),prt g3 [.ints C1, .val (.slice a1 n1 k1), .ints C2, .val (.slice a2 n2 k2)],own 94 2 (some ⟨g5,0,none⟩) M c3 ((OC (A5 n Ev)).map (Value.int .i64))]:=hS
     rw [hA2] at hS
     clear hA1 hA2
     refine AP [7] (fun w=>St w0 w [prt g3 [.ints C1, .val (.slice a1 n1 k1), .ints C2, .val (.slice a2 n2 k2)],blk g16 [.int .i64 (f:Nat), .int .i64 (t:Nat)]]) AA ?_
     replace hS:=hS.drew
     focus
      refine Zs 0 [7,8,9,10,11,12] ?_
      refine AZ 1 ?_
      refine BZ 2 BN (V.fieldAddr NM rfl A7) ?_;go_step
      refine Y5 3 [6,7,8,9,10,11,12] ?_
      refine BZ 4 BN (V.fieldAddr NN rfl A7) ?_;go_step
      refine Y5 5 [6,7,8,9,10,11,12] ?_
      refine eu 6 ?_
      refine Av 7 ?_
      refine AY (f:=75) rfl Tryz.call75 (Gz _ C1 C2 S1 S2 a1 a2 n1 n2 k1 k2 hC1 hC2 (hs1.ext hS.1) (hs2.ext hS.1) hn1 hn2 (cutAt ad c f 64) (t-f) (c-f) (Ap l f t) (by omega) (hcc.ext hS.1)) ?_;rintro e w ⟨ap,cp,mp,hmp,rfl,hS2⟩;rw [HB.out] at hS2;rw [HB.out,HMB.out] at hmp;subst hmp;rw [HE.out];replace hS:=hS.call1 hS2;clear hS2;refine ⟨_,rfl,?_⟩
      refine ⟨fun h=>absurd (by decide) h,?_⟩
      refine AI ?_
      go_step
      refine AZ 8 ?_
      refine Y2 9 ?_
      refine Y2 10 ?_
      refine AZ 11 ?_
      refine AZ 12 ?_
      refine AE AA ?_ _
     all_goals
      repeat' (first|(refine AG ?_;go_step)|fail)
      by_cases hE0:E=0
      case neg=>
       have hD1:KJ (D=(E,acc)):=⟨by rw [HV.out,hstep.out,if_pos hE0];simp⟩
       have HS1:=AD (show Fk C1 S1 C2 S2 l n Ev=(E,[]) by rw [HP3.out,hD1.out,if_neg hE0])
       clear HV hstep hD1
       repeat' (first
        | refine X0 ?_|refine X4 ?_|refine AG ?_;go_step|fail)
       all_goals (try exact AR)
       refine AK (xs:=[_,_]) rfl (.cons (AC.tmp rfl) (.cons (AC.tmp rfl) (.nil))) (by simp) rfl ?_
       exact Er E (by rw [HS1.out]) (by rw [HS1.out]) hS.1
      have hD2:GV C1 S1 C2 S2 l ((A5 n Ev).drop k) k=((GV C1 S1 C2 S2 l ((A5 n Ev).drop (k+1)) (k+1)).1,(if k=0 then [] else [255,((208+(k-1)%8:Nat):Int)])++(B++(GV C1 S1 C2 S2 l ((A5 n Ev).drop (k+1)) (k+1)).2)):=by rw [hstep.out,if_neg (by simpa using hE0)]
      have HV2:KJ (D=((GV C1 S1 C2 S2 l ((A5 n Ev).drop (k+1)) (k+1)).1,(acc1++B)++(GV C1 S1 C2 S2 l ((A5 n Ev).drop (k+1)) (k+1)).2)):=⟨by rw [HV.out,hD2,←HA1.out,List.append_assoc,List.append_assoc]⟩
      clear HV hstep hD2
      subst hE0
      repeat' (first
       | refine X1 ?_|refine X4 ?_|refine AG ?_;go_step|fail)
      all_goals (try exact AR)
      repeat' (first
       | refine X0 ?_|refine X7 ?_|refine bK 85 ?_;clear hS;intro ad85 c85 w hS|refine AG ?_;go_step|fail)
      go_roundg (gk-1)
      case measure=>omega
      case rel=>exact ⟨k+1,_,acc1++B,_,_,by omega,by go_num,rfl,by omega,AD (by rw [List.length_append,HL1.out,HMB.out]),HV2,hS.sub AV⟩
    obtain ⟨r,hr⟩:∃r,208+(k-1)%8=r:=⟨_,rfl⟩
    have HR:=AD hr
    obtain ⟨acc1,hA1⟩:∃a,acc++(if k=0 then [] else [255,((208+(k-1)%8:Nat):Int)])=a:=⟨_,rfl⟩
    have hA2:acc++[255,(r:Int)]=acc1:=by rw [←hA1,if_neg hk0,hr]
    have HA1:=AD hA1
    have HL1:=AD (show acc1.length=m+2 by rw [←hA2,List.length_append,HQ.out];rfl)
    clear hA1
    repeat' (first
     | (refine AQ 64 ?_);(refine Ag (.int _ (((k-1:Nat):Int))) (V.as (V.subI rfl rfl (by omega)) (by omega)) (by kernel_rfl) ?_;go_step)|(refine AQ 65 ?_);refine AM (f:=74) Tryz.call74 AA ?_;refine ⟨_,(Ko _ (k-1) (by omega)),?_⟩;rintro e w ⟨rfl,hE2⟩;rw [HR.out];replace hS:=hS.ext hE2;clear hE2;refine Ac ?_;go_step|refine X0 ?_|refine X2 ?_|refine S8 58 ?_|refine H3 ?_|(with_reducible refine Ak _ (.convert 3 5 _) ?_);(refine An AA (V.convI (by rw [Tryz.underlying3];rfl) Tryz.underlying5 rfl (IntWalk.u8_in _ (by omega))) ?_;go_step)|refine dB ?_|refine ch 16 ?_;clear hS;intro g16 w hS|refine ct ?_;clear hS;intro w hS|refine Xc 67 ?_;clear hS;intro g67 w hS|refine bK 68 ?_;clear hS;intro ad68 c68 w hS|refine AG ?_;go_step|fail)
    all_goals (try exact AR)
    replace hS:St w0 w [own 5 1 ad68 (m+2) c68 ((acc++[255,(r:Int)]).map (Value.int .u8)),blk g16 [.int .i64 (f:Nat), .int .i64 (t:Nat)],prt g3 [.ints C1, .val (.slice a1 n1 k1), .ints C2, .val (.slice a2 n2 k2)],own 94 2 (some ⟨g5,0,none⟩) M c3 ((OC (A5 n Ev)).map (Value.int .i64))]:=by
     have h9:St w0 w (_::_::blk g16 [.int .i64 (f:Nat), .int .i64 (t:Nat)]::_):=hS
     exact h9.sub AV
    rw [hA2] at hS
    clear hA2
    refine AP [7] (fun w=>St w0 w [prt g3 [.ints C1, .val (.slice a1 n1 k1), .ints C2, .val (.slice a2 n2 k2)],blk g16 [.int .i64 (f:Nat), .int .i64 (t:Nat)]]) AA ?_
    replace hS:=hS.drew
    focus
     refine Zs 0 [7,8,9,10,11,12] ?_
     refine AZ 1 ?_
     refine BZ 2 BN (V.fieldAddr NM rfl A7) ?_;go_step
     refine Y5 3 [6,7,8,9,10,11,12] ?_
     refine BZ 4 BN (V.fieldAddr NN rfl A7) ?_;go_step
     refine Y5 5 [6,7,8,9,10,11,12] ?_
     refine eu 6 ?_
     refine Av 7 ?_
     refine AY (f:=75) rfl Tryz.call75 (Gz _ C1 C2 S1 S2 a1 a2 n1 n2 k1 k2 hC1 hC2 (hs1.ext hS.1) (hs2.ext hS.1) hn1 hn2 (cutAt ad c f 64) (t-f) (c-f) (Ap l f t) (by omega) (hcc.ext hS.1)) ?_;rintro e w ⟨ap,cp,mp,hmp,rfl,hS2⟩;rw [HB.out] at hS2;rw [HB.out,HMB.out] at hmp;subst hmp;rw [HE.out];replace hS:=hS.call1 hS2;clear hS2;refine ⟨_,rfl,?_⟩
     refine ⟨fun h=>absurd (by decide) h,?_⟩
     refine AI ?_
     go_step
     refine AZ 8 ?_
     refine Y2 9 ?_
     refine Y2 10 ?_
     refine AZ 11 ?_
     refine AZ 12 ?_
     refine AE AA ?_ _
    all_goals
     repeat' (first|(refine AG ?_;go_step)|fail)
     by_cases hE0:E=0
     case neg=>
      have hD1:KJ (D=(E,acc)):=⟨by rw [HV.out,hstep.out,if_pos hE0];simp⟩
      have HS1:=AD (show Fk C1 S1 C2 S2 l n Ev=(E,[]) by rw [HP3.out,hD1.out,if_neg hE0])
      clear HV hstep hD1
      repeat' (first
       | refine X0 ?_|refine X4 ?_|refine AG ?_;go_step|fail)
      all_goals (try exact AR)
      refine AK (xs:=[_,_]) rfl (.cons (AC.tmp rfl) (.cons (AC.tmp rfl) (.nil))) (by simp) rfl ?_
      exact Er E (by rw [HS1.out]) (by rw [HS1.out]) hS.1
     have hD2:GV C1 S1 C2 S2 l ((A5 n Ev).drop k) k=((GV C1 S1 C2 S2 l ((A5 n Ev).drop (k+1)) (k+1)).1,(if k=0 then [] else [255,((208+(k-1)%8:Nat):Int)])++(B++(GV C1 S1 C2 S2 l ((A5 n Ev).drop (k+1)) (k+1)).2)):=by rw [hstep.out,if_neg (by simpa using hE0)]
     have HV2:KJ (D=((GV C1 S1 C2 S2 l ((A5 n Ev).drop (k+1)) (k+1)).1,(acc1++B)++(GV C1 S1 C2 S2 l ((A5 n Ev).drop (k+1)) (k+1)).2)):=⟨by rw [HV.out,hD2,←HA1.out,List.append_assoc,List.append_assoc]⟩
     clear HV hstep hD2
     subst hE0
     repeat' (first
      | refine X1 ?_|refine X4 ?_|refine AG ?_;go_step|fail)
     all_goals (try exact AR)
     repeat' (first
      | refine X0 ?_|refine X7 ?_|refine bK 85 ?_;clear hS;intro ad85 c85 w hS|refine AG ?_;go_step|fail)
     go_roundg (gk-1)
     case measure=>omega
     case rel=>exact ⟨k+1,_,acc1++B,_,_,by omega,by go_num,rfl,by omega,AD (by rw [List.length_append,HL1.out,HMB.out]),HV2,hS.sub AV⟩
   obtain rfl:k=M:=by omega
   have hD0:KJ (D=(0,acc)):=⟨by rw [HV.out,List.drop_of_length_le (by rw [HM.out];omega),GV,List.append_nil]⟩
   have HS1:=AD (show Fk C1 S1 C2 S2 l n Ev=(0,acc) by rw [HP3.out,hD0.out,if_pos rfl])
   clear HV
   repeat' (first
    | refine X0 ?_|refine X2 ?_|refine AG ?_;go_step|fail)
   all_goals (try exact AR)
   repeat' (first
    | refine AG ?_;go_step|fail)
   refine AK (xs:=[_,_]) rfl (.cons (AC.tmp rfl) (.cons (AC.tmp rfl) (.nil))) (by simp) rfl ?_
   exact ⟨ao,co,m,by rw [HS1.out];exact HQ.out,by rw [HS1.out];rfl,by rw [HS1.out];exact hS.sub AV⟩
theorem QU(n:Int)(w:World):Calls Tryz.prog 16 #[.int .i64 n] w fun e w'=>e= .returned (.int .i64 (n%101))∧w=w':=by
 go_enter Tryz.func16,Tryz.ntmps16
 repeat' (first
  | (refine As 28 ?_);refine At AA Tryz.call28 (PQ n 101 _ (by omega) (by omega)) ?_;rintro e w' ⟨rfl,rfl⟩;refine Ac ?_;go_step|refine X0 ?_|refine AG ?_;go_step|fail)
 go_ret
 exact ⟨rfl,rfl⟩
theorem WT{l:List Int}{q k:Nat}(h:k<q):Bi (l.take (q*64)) 64 k=Bi l 64 k:=by
 unfold Bi
 rw [List.drop_take,List.take_take,Nat.min_eq_left (by omega)]
theorem Rh{A X:List Int}{s:Nat}(h:s<256):AJ (Cn A) s+AJ (Cn X) s=AJ (Cn (A++X)) s:=by
 rw [D9 _ h,D9 _ h,D9 _ h,List.count_append];push_cast;rfl
theorem Dt{W w w':World}{rs:List Ar}{r s:Ar}(h:St W w rs)(h':St w w' [r,s]):St W w' (r::s::rs):=h.call h'
end Go.Proofs.YtohacgmhmbijmaaGreatDoor
namespace Go.Proofs.YtohacgmhmbijmaaGreatDoor
attribute [local irreducible] Region.wanted
set_option linter.unusedVariables false
set_option maxRecDepth 100000
set_option maxHeartbeats 8000000
section
variable{α:Type}[Inhabited α]
def Am(l:List α)(i:Nat):α:=l.getD i default
theorem NA(l:List α)(i j:Nat)(z:α)(h:i<l.length):Am (l.set i z) j=if i=j then z else Am l j:=by
 unfold Am
 simp only [List.getD_eq_getElem?_getD,List.getElem?_set]
 split
 ·simp
 rfl
theorem B3(l m:List α)(i:Nat)(h:i<l.length):Am (l++m) i=Am l i:=by simp [Am,List.getElem?_append_left h]
theorem BA(l m:List α)(i:Nat)(h:l.length≤i):Am (l++m) i=Am m (i-l.length):=by simp [Am,List.getElem?_append_right h]
theorem YX{l:List α}{i:Nat}(h:i<l.length):Am l i∈l:=by simp [Am,h]
theorem QR{l:List α}{x:α}(h:x∈l):∃i,i<l.length∧Am l i=x:=by
 obtain ⟨i,hi,e⟩:=List.getElem_of_mem h
 exact ⟨i,hi,by simp [Am,hi,e]⟩
theorem Jz{l m:List α}(h:l.length=m.length)(k:∀i,i<l.length→Am l i=Am m i):l=m:=by
 apply List.ext_getElem h
 intro i h1 h2
 have:=k i h1
 simpa [Am,h1,h2] using this
theorem Cr(l:List α)(n i:Nat)(h:i<n):Am (l.take n) i=Am l i:=by simp [Am,h]
theorem Cq(l:List α)(n i:Nat):Am (l.drop n) i=Am l (n+i):=by simp [Am]
structure Rg(a b:Nat)(P P':List α):Prop where
 len:P'.length=P.length
 out:∀x,x<a∨b≤x→Am P' x=Am P x
 perm:((P'.drop a).take (b-a)).Perm ((P.drop a).take (b-a))
theorem Rg.refl(a b:Nat)(P:List α):Rg a b P P:=⟨rfl,fun _ _=>rfl,List.Perm.refl _⟩
theorem Rg.trans{a b:Nat}{P Q R:List α}(h:Rg a b P Q)(k:Rg a b Q R):Rg a b P R:=
 ⟨k.len.trans h.len,fun x hx=>(k.out x hx).trans (h.out x hx),k.perm.trans h.perm⟩
theorem Rg.from{a b:Nat}{P P':List α}(h:Rg a b P P')(hb:b≤P.length){x:Nat}(h1:a≤x)(h2:x<b):∃y,a≤y∧y<b∧Am P' x=Am P y:=by
 have hl:=h.len
 have e:Am P' x=Am ((P'.drop a).take (b-a)) (x-a):=by rw [Cr _ _ _ (by omega),Cq];congr 1;omega
 have hm:Am P' x∈(P'.drop a).take (b-a):=by rw [e];exact YX (by simp;omega)
 obtain ⟨i,hi,e2⟩:=QR (h.perm.mem_iff.1 hm)
 simp at hi
 exact ⟨a+i,by omega,by omega,by rw [←e2,Cr _ _ _ (by omega),Cq]⟩
theorem Rg.wide{a b c d:Nat}{P P':List α}(h:Rg a b P P')(hca:c≤a)(hbd:b≤d)(hab:a≤b)(hd:b≤P.length):Rg c d P P':=by
 refine ⟨h.len,fun x hx=>h.out x (by omega),?_⟩
 have cut:∀Q:List α,(Q.drop c).take (d-c)=(Q.drop c).take (a-c)++((Q.drop a).take (b-a)++(Q.drop b).take (d-b)):=fun Q=>by
  have e1:d-c=(a-c)+((b-a)+(d-b)):=by omega
  rw [e1,List.take_add,List.take_add,List.drop_drop,List.drop_drop]
  congr 4<;>omega
 have hl:=h.len
 rw [cut,cut]
 have e1:(P'.drop c).take (a-c)=(P.drop c).take (a-c):=Jz (by simp [hl]) fun i hi=>by
  simp at hi;rw [Cr _ _ _ (by omega),Cr _ _ _ (by omega),Cq,Cq,h.out _ (by omega)]
 have e2:(P'.drop b).take (d-b)=(P.drop b).take (d-b):=Jz (by simp [hl]) fun i hi=>by
  simp at hi;rw [Cr _ _ _ (by omega),Cr _ _ _ (by omega),Cq,Cq,h.out _ (by omega)]
 rw [e1,e2]
 exact List.Perm.append_left _ (List.Perm.append_right _ h.perm)
theorem Rg.all{P P':List α}(h:Rg 0 P.length P P'):P'.Perm P:=by
 have:=h.perm
 simp only [List.drop_zero,Nat.sub_zero,List.take_length] at this
 rwa [←h.len,List.take_length] at this
def P3(P:List α)(i j:Nat):List α:=(P.set i (Am P j)).set j (Am P i)
theorem Gj(P:List α)(i j:Nat):(P3 P i j).length=P.length:=by simp [P3]
theorem GT(P:List α)(i j x:Nat)(hi:i<P.length)(hj:j<P.length):Am (P3 P i j) x=if j=x then Am P i else if i=x then Am P j else Am P x:=by
 unfold P3
 rw [NA _ _ _ _ (by simpa using hj),NA _ _ _ _ hi]
theorem PX(l:List α)(i:Nat)(z:α)(h:i<l.length):(Am l i::l.set i z).Perm (z::l):=by
 induction l generalizing i with
 | nil=>simp at h
 | cons a l ih=>
   cases i with
   | zero=>simp only [Am,List.getD_cons_zero,List.set_cons_zero];exact List.Perm.swap _ _ _
   | succ i=>
     have:=ih i (by simpa using h)
     simp only [List.set_cons_succ]
     have e:Am (a::l) (i+1)=Am l i:=by simp [Am]
     rw [e]
     exact (List.Perm.swap _ _ _).trans ((this.cons a).trans (List.Perm.swap _ _ _))
theorem Wi(P:List α)(i j:Nat)(hi:i<P.length)(hj:j<P.length):(P3 P i j).Perm P:=by
 unfold P3
 have h1:=PX (P.set i (Am P j)) j (Am P i) (by simpa using hj)
 have h2:=PX P i (Am P j) hi
 rw [NA _ _ _ _ hi] at h1
 have e:(if i=j then Am P j else Am P j)=Am P j:=by split<;>rfl
 rw [e] at h1
 exact (h1.trans h2).cons_inv
theorem Nq(P:List α)(a b i j:Nat)(hi:a≤i)(hib:i<b)(hj:a≤j)(hjb:j<b)(hb:b≤P.length):Rg a b P (P3 P i j):=by
 refine ⟨Gj P i j,fun x hx=>by rw [GT _ _ _ _ (by omega) (by omega),if_neg (by omega),if_neg (by omega)],?_⟩
 have e:((P3 P i j).drop a).take (b-a)=P3 ((P.drop a).take (b-a)) (i-a) (j-a):=by
  refine Jz (by simp [Gj]) fun x hx=>?_
  simp [Gj] at hx
  rw [Cr _ _ _ (by omega),Cq,GT _ _ _ _ (by omega) (by omega),GT _ _ _ _ (by simp;omega) (by simp;omega),Cr _ _ (i-a) (by omega),Cr _ _ (j-a) (by omega),Cr _ _ x (by omega),Cq,Cq,Cq]
  rw [show a+(i-a)=i by omega,show a+(j-a)=j by omega]
  by_cases h1:j=a+x
  ·rw [if_pos h1,if_pos (show j-a=x by omega)]
  rw [if_neg h1,if_neg (show ¬j-a=x by omega)]
  by_cases h2:i=a+x
  ·rw [if_pos h2,if_pos (show i-a=x by omega)]
  rw [if_neg h2,if_neg (show ¬i-a=x by omega)]
 rw [e]
 exact Wi _ _ _ (by simp;omega) (by simp;omega)
variable(key:α→Int)
def D6(lo hi:Nat)(P:List α):Prop:=∀i j,lo≤i→i≤j→j<hi→key (Am P i)≤key (Am P j)
variable{key}
theorem D6.same{lo hi:Nat}{P Q:List α}(h:D6 key lo hi P)(e:∀x,lo≤x→x<hi→Am Q x=Am P x):D6 key lo hi Q:=fun i j h1 h2 h3=>by
 rw [e i h1 (by omega),e j (by omega) h3];exact h i j h1 h2 h3
theorem D6.sub{lo hi lo' hi':Nat}{P:List α}(h:D6 key lo hi P)(h1:lo≤lo')(h2:hi'≤hi):D6 key lo' hi' P:=fun i j k1 k2 k3=>h i j (by omega) k2 (by omega)
theorem D6.pair{P:List α}(h:D6 key 0 P.length P):P.Pairwise (fun a b=>key a≤key b):=by
 rw [List.pairwise_iff_getElem]
 intro i j hi hj hij
 have:=h i j (by omega) (by omega) hj
 simpa [Am,hi,hj] using this
theorem WK(A U V B:List α)(x:Nat):Am (A++(V++(U++B))) x=if x<A.length then Am (A++(U++(V++B))) x else if x<A.length+V.length then Am (A++(U++(V++B))) (x+U.length) else if x<A.length+V.length+U.length then Am (A++(U++(V++B))) (x-V.length) else Am (A++(U++(V++B))) x:=by
 by_cases h1:x<A.length
 ·rw [if_pos h1,B3 _ _ _ h1,B3 _ _ _ h1]
 rw [if_neg h1,BA _ _ _ (by omega)]
 by_cases h2:x<A.length+V.length
 ·rw [if_pos h2,B3 _ _ _ (by omega),BA A _ _ (by omega),BA U _ _ (by omega),B3 V _ _ (by omega)];congr 1;omega
 rw [if_neg h2,BA _ _ _ (by omega)]
 by_cases h3:x<A.length+V.length+U.length
 ·rw [if_pos h3,B3 _ _ _ (by omega),BA A _ _ (by omega),B3 U _ _ (by omega)];congr 1;omega
 rw [if_neg h3,BA U _ _ (by omega),BA A _ _ (by omega),BA U _ _ (by omega),BA V _ _ (by omega)];congr 1;omega
def OB(a m b:Nat)(P P':List α):Prop:=∃A U V B,P=A++(U++(V++B))∧P'=A++(V++(U++B))∧A.length=a∧U.length=m-a∧V.length=b-m
theorem OB.rg{a m b:Nat}{P P':List α}(h:OB a m b P P')(h1:a≤m)(h2:m≤b):Rg a b P P':=by
 obtain ⟨A,U,V,B,rfl,rfl,rfl,hu,hv⟩:=h
 refine ⟨by simp;omega,fun x hx=>?_,?_⟩
 ·rw [WK]
  rcases hx with hx|hx
  ·rw [if_pos hx]
  rw [if_neg (by omega),if_neg (by omega),if_neg (by omega)]
 rw [List.drop_left' rfl,List.drop_left' rfl,←List.append_assoc,←List.append_assoc,List.take_left' (by simp;omega),List.take_left' (by simp;omega)]
 exact List.perm_append_comm
theorem OB.at{a m b:Nat}{P P':List α}(h:OB a m b P P')(h1:a≤m)(h2:m≤b)(x:Nat):Am P' x=if x<a then Am P x else if x<a+(b-m) then Am P (x+(m-a)) else if x<b then Am P (x-(b-m)) else Am P x:=by
 obtain ⟨A,U,V,B,rfl,rfl,rfl,hu,hv⟩:=h
 rw [WK,hu,hv]
 rw [show A.length+(b-m)+(m-A.length)=b by omega]
theorem OB.triv{β:Type}{a m b:Nat}{P:List β}(h1:a≤m)(h2:m≤b)(hb:b≤P.length)(h:m=a∨m=b):OB a m b P P:=by
 refine ⟨P.take a,(P.drop a).take (m-a),(P.drop m).take (b-m),P.drop b,?_,?_,by simp;omega,by simp;omega,by simp;omega⟩
 ·have e1:(P.drop m).take (b-m)++P.drop b=P.drop m:=by
   have:=List.take_append_drop (b-m) (P.drop m)
   rw [List.drop_drop,show m+(b-m)=b by omega] at this;exact this
  have e2:(P.drop a).take (m-a)++P.drop m=P.drop a:=by
   have:=List.take_append_drop (m-a) (P.drop a)
   rw [List.drop_drop,show a+(m-a)=m by omega] at this;exact this
  rw [e1,e2,List.take_append_drop]
 rcases h with rfl|rfl
 ·rw [Nat.sub_self,List.take_zero,List.nil_append]
  have e1:(P.drop m).take (b-m)++P.drop b=P.drop m:=by
   have:=List.take_append_drop (b-m) (P.drop m)
   rw [List.drop_drop,show m+(b-m)=b by omega] at this;exact this
  rw [e1,List.take_append_drop]
 rw [Nat.sub_self,List.take_zero,List.nil_append]
 have e2:(P.drop a).take (m-a)++P.drop m=P.drop a:=by
  have:=List.take_append_drop (m-a) (P.drop a)
  rw [List.drop_drop,show a+(m-a)=m by omega] at this;exact this
 rw [e2,List.take_append_drop]
theorem Gk{a m b mid st en:Nat}{P Q:List α}(h1:D6 key a m P)(h2:D6 key m b P)(ham:a<m)(hmb:m<b)(hmid:mid=(a+b)/2)(hen:en=mid+m-st)(hs1:a≤st)(hs2:st≤m)(hs3:st≤mid)(he1:m≤en)(he2:en≤b)
 (hlo:a<st→m≤en→en<b→key (Am P (st-1))≤key (Am P en)) (hhi:m<en→st<m→key (Am P (en-1))≤key (Am P st)) (hr:OB st m en P Q):
 D6 key a st Q∧D6 key st mid Q∧D6 key mid en Q∧D6 key en b Q∧∀x y,a≤x→x<mid→mid≤y→y<b→key (Am Q x)≤key (Am Q y):=by
 have ha:=hr.at hs2 he1
 have em:st+(en-m)=mid:=by omega
 rw [em] at ha
 have hA:∀x,x<st→Am Q x=Am P x:=fun x h=>by rw [ha,if_pos h]
 have hB:∀x,st≤x→x<mid→Am Q x=Am P (x+(m-st)):=fun x h h'=>by rw [ha,if_neg (by omega),if_pos h']
 have hC:∀x,mid≤x→x<en→Am Q x=Am P (x-(en-m)):=fun x h h'=>by rw [ha,if_neg (by omega),if_neg (by omega),if_pos h']
 have hD:∀x,en≤x→Am Q x=Am P x:=fun x h=>by rw [ha,if_neg (by omega),if_neg (by omega),if_neg (by omega)]
 clear ha hr
 refine ⟨h1.sub (Nat.le_refl _) hs2 |>.same fun x _ hx=>hA x hx,?_,?_,h2.sub he1 (Nat.le_refl _) |>.same fun x hx _=>hD x hx,?_⟩
 ·intro i j k1 k2 k3
  rw [hB i k1 (by omega),hB j (by omega) k3]
  exact h2 _ _ (by omega) (by omega) (by omega)
 ·intro i j k1 k2 k3
  rw [hC i k1 (by omega),hC j (by omega) k3]
  exact h1 _ _ (by omega) (by omega) (by omega)
 intro x y k1 k2 k3 k4
 by_cases c1:x<st
 ·rw [hA x c1]
  by_cases c2:y<en
  ·rw [hC y k3 c2];exact h1 _ _ (by omega) (by omega) (by omega)
  rw [hD y (by omega)]
  have t1:=h1 x (st-1) k1 (by omega) (by omega)
  have t2:=hlo (by omega) he1 (by omega)
  have t3:=h2 en y he1 (by omega) k4
  omega
 rw [hB x (by omega) k2]
 by_cases c2:y<en
 ·rw [hC y k3 c2]
  have t1:=h2 (x+(m-st)) (en-1) (by omega) (by omega) (by omega)
  have t2:=hhi (by omega) (by omega)
  have t3:=h1 st (y-(en-m)) hs1 (by omega) (by omega)
  omega
 rw [hD y (by omega)];exact h2 _ _ (by omega) (by omega) (by omega)
theorem Bg{a mid b:Nat}{Q R S:List α}(h1:a≤mid)(h2:mid≤b)(hb:b≤Q.length)(hx:∀x y,a≤x→x<mid→mid≤y→y<b→key (Am Q x)≤key (Am Q y))(r1:Rg a mid Q R)(r2:Rg mid b R S)(s1:D6 key a mid R)(s2:D6 key mid b S):D6 key a b S∧Rg a b Q S:=by
 refine ⟨fun i j k1 k2 k3=>?_,(r1.wide (Nat.le_refl _) h2 h1 (by omega)).trans (r2.wide h1 (Nat.le_refl _) h2 (by rw [r1.len];omega))⟩
 by_cases c1:j<mid
 ·rw [r2.out i (by omega),r2.out j (by omega)];exact s1 i j k1 k2 c1
 by_cases c2:i<mid
 ·obtain ⟨x,x1,x2,ex⟩:=r1.from (by omega) k1 c2
  obtain ⟨y,y1,y2,ey⟩:=r2.from (by rw [r1.len];omega) (show mid≤j by omega) k3
  rw [r2.out i (by omega),ex,ey,r1.out y (by omega)]
  exact hx x y x1 x2 y1 y2
 exact s2 i j (by omega) k2 k3
theorem Ym{lo i p:Nat}{P Q:List α}(h1:D6 key lo i P)(hp1:lo≤p)(hp2:p≤i)(e1:∀x,x<p→Am Q x=Am P x)(e2:Am Q p=Am P i)(e3:∀x,p<x→x≤i→Am Q x=Am P (x-1))
 (hlo:lo<p→key (Am P (p-1))≤key (Am P i)) (hhi:p<i→key (Am P i)≤key (Am P p)):D6 key lo (i+1) Q:=by
 intro x y k1 k2 k3
 by_cases c1:x<p
 ·rw [e1 x c1]
  by_cases c2:y<p
  ·rw [e1 y c2];exact h1 x y k1 k2 (by omega)
  by_cases c3:y=p
  ·rw [c3,e2];have:=h1 x (p-1) k1 (by omega) (by omega);have:=hlo (by omega);omega
  rw [e3 y (by omega) (by omega)];exact h1 x (y-1) k1 (by omega) (by omega)
 by_cases c2:x=p
 ·rw [c2,e2]
  by_cases c3:y=p
  ·rw [c3,e2];exact Int.le_refl _
  rw [e3 y (by omega) (by omega)]
  have:=h1 p (y-1) (by omega) (by omega) (by omega);have:=hhi (by omega);omega
 rw [e3 x (by omega) (by omega),e3 y (by omega) (by omega)]
 exact h1 (x-1) (y-1) (by omega) (by omega) (by omega)
end
section
variable{α:Type}[Inhabited α]{key:α→Int}
structure Dn(i j:Nat)(P Q:List α):Prop where
 len:Q.length=P.length
 lo:∀x,x<j→Am Q x=Am P x
 eq:Am Q j=Am P i
 mid:∀x,j<x→x≤i→Am Q x=Am P (x-1)
 hi:∀x,i<x→Am Q x=Am P x
theorem Dn.refl(i:Nat)(P:List α):Dn i i P P:=⟨rfl,fun _ _=>rfl,rfl,fun x h1 h2=>by omega,fun _ _=>rfl⟩
theorem Dn.step{i j:Nat}{P Q:List α}(h:Dn i j P Q)(h1:0<j)(h2:j≤i)(h3:i<P.length):Dn i (j-1) P (P3 Q j (j-1)):=by
 have hl:=h.len
 have e:=fun x=>GT Q j (j-1) x (by omega) (by omega)
 refine ⟨by rw [Gj,hl],fun x hx=>?_,?_,fun x k1 k2=>?_,fun x hx=>?_⟩
 ·rw [e,if_neg (by omega),if_neg (by omega),h.lo x (by omega)]
 ·rw [e,if_pos rfl,h.eq]
 ·rw [e,if_neg (by omega)]
  by_cases c:j=x
  ·rw [if_pos c,h.lo _ (by omega),c]
  rw [if_neg c,h.mid x (by omega) k2]
 rw [e,if_neg (by omega),if_neg (by omega),h.hi x hx]
theorem Dn.asc{lo i p:Nat}{P Q:List α}(h:Dn i p P Q)(h1:D6 key lo i P)(hp1:lo≤p)(hp2:p≤i)(hlo:lo<p→key (Am P (p-1))≤key (Am P i))(hhi:p<i→key (Am P i)≤key (Am P p)):D6 key lo (i+1) Q:=
 Ym h1 hp1 hp2 h.lo h.eq h.mid hlo hhi
structure XY(a k:Nat)(P Q:List α):Prop where
 len:Q.length=P.length
 lo:∀x,x<a→Am Q x=Am P x
 mid:∀x,a≤x→x<k→Am Q x=Am P (x+1)
 eq:Am Q k=Am P a
 hi:∀x,k<x→Am Q x=Am P x
theorem XY.refl(i:Nat)(P:List α):XY i i P P:=⟨rfl,fun _ _=>rfl,fun x h1 h2=>by omega,rfl,fun _ _=>rfl⟩
theorem XY.step{a k:Nat}{P Q:List α}(h:XY a k P Q)(h1:a≤k)(h3:k+1<P.length):XY a (k+1) P (P3 Q k (k+1)):=by
 have hl:=h.len
 have e:=fun x=>GT Q k (k+1) x (by omega) (by omega)
 refine ⟨by rw [Gj,hl],fun x hx=>?_,fun x k1 k2=>?_,?_,fun x hx=>?_⟩
 ·rw [e,if_neg (by omega),if_neg (by omega),h.lo x hx]
 ·rw [e,if_neg (by omega)]
  by_cases c:k=x
  ·rw [if_pos c,h.hi _ (by omega),c]
  rw [if_neg c,h.mid x k1 (by omega)]
 ·rw [e,if_pos rfl,h.eq]
 rw [e,if_neg (by omega),if_neg (by omega),h.hi x (by omega)]
theorem XY.asc{a p b:Nat}{P Q:List α}(h:XY a p P Q)(h1:D6 key (a+1) b P)(hp1:a≤p)(hp2:p<b)(hlo:a<p→key (Am P p)≤key (Am P a))(hhi:p+1<b→key (Am P a)≤key (Am P (p+1))):D6 key a b Q:=by
 intro x y k1 k2 k3
 by_cases c1:x<p
 ·rw [h.mid x k1 c1]
  by_cases c2:y<p
  ·rw [h.mid y (by omega) c2];exact h1 _ _ (by omega) (by omega) (by omega)
  by_cases c3:y=p
  ·rw [c3,h.eq];have:=h1 (x+1) p (by omega) (by omega) (by omega);have:=hlo (by omega);omega
  rw [h.hi y (by omega)];exact h1 _ _ (by omega) (by omega) (by omega)
 by_cases c2:x=p
 ·rw [c2,h.eq]
  by_cases c3:y=p
  ·rw [c3,h.eq];exact Int.le_refl _
  rw [h.hi y (by omega)]
  have:=hhi (by omega);have:=h1 (p+1) y (by omega) (by omega) (by omega);omega
 rw [h.hi x (by omega),h.hi y (by omega)];exact h1 _ _ (by omega) (by omega) (by omega)
structure RP(a b t:Nat)(P Q:List α):Prop where
 len:Q.length=P.length
 one:∀x,a≤x→x<a+t→Am Q x=Am P (x-a+b)
 two:∀x,b≤x→x<b+t→Am Q x=Am P (x-b+a)
 out:∀x,(x<a∨a+t≤x)→(x<b∨b+t≤x)→Am Q x=Am P x
theorem RP.refl(a b:Nat)(P:List α):RP a b 0 P P:=⟨rfl,fun x h1 h2=>by omega,fun x h1 h2=>by omega,fun _ _ _=>rfl⟩
theorem RP.step{a b t:Nat}{P Q:List α}(h:RP a b t P Q)(h1:a+t<b)(h2:b+t<P.length):RP a b (t+1) P (P3 Q (a+t) (b+t)):=by
 have hl:=h.len
 have e:=fun x=>GT Q (a+t) (b+t) x (by omega) (by omega)
 refine ⟨by rw [Gj,hl],fun x k1 k2=>?_,fun x k1 k2=>?_,fun x k1 k2=>?_⟩
 ·rw [e,if_neg (by omega)]
  by_cases c:a+t=x
  ·rw [if_pos c,h.out _ (by omega) (by omega)];congr 1;omega
  rw [if_neg c,h.one x k1 (by omega)]
 ·rw [e]
  by_cases c:b+t=x
  ·rw [if_pos c,h.out _ (by omega) (by omega)];congr 1;omega
  rw [if_neg c,if_neg (by omega),h.two x k1 (by omega)]
 rw [e,if_neg (by omega),if_neg (by omega),h.out x (by omega) (by omega)]
theorem RP.blocks{A U C V B Q:List α}{n:Nat}(hu:U.length=n)(hv:V.length=n)(h:RP A.length (A.length+n+C.length) n (A++(U++(C++(V++B)))) Q):Q=A++(V++(C++(U++B))):=by
 have hl:=h.len
 refine Jz (by rw [hl];simp;omega) fun x hx=>?_
 rw [hl] at hx
 simp at hx
 by_cases c1:x<A.length
 ·rw [h.out x (by omega) (by omega),B3 _ _ _ c1,B3 _ _ _ c1]
 rw [BA A (V++(C++(U++B))) _ (by omega)]
 by_cases c2:x<A.length+n
 ·rw [h.one x (by omega) c2,B3 V _ _ (by omega),BA A _ _ (by omega),BA U _ _ (by omega),BA C _ _ (by omega),B3 V _ _ (by omega)];congr 1;omega
 rw [BA V (C++(U++B)) _ (by omega)]
 by_cases c3:x<A.length+n+C.length
 ·rw [h.out x (by omega) (by omega),B3 C (U++B) _ (by omega),BA A _ _ (by omega),BA U _ _ (by omega),B3 C _ _ (by omega)];congr 1;omega
 rw [BA C (U++B) _ (by omega)]
 by_cases c4:x<A.length+n+C.length+n
 ·rw [h.two x (by omega) c4,B3 U B _ (by omega),BA A _ _ (by omega),B3 U _ _ (by omega)];congr 1;omega
 rw [h.out x (by omega) (by omega),BA U B _ (by omega),BA A _ _ (by omega),BA U _ _ (by omega),BA C _ _ (by omega),BA V _ _ (by omega)];congr 1;omega
theorem OB.left{A U V B Q:List α}{i j:Nat}(hu:U.length=i)(hv:V.length=j)(hij:j≤i)(h:RP A.length (A.length+i) j (A++(U++(V++B))) Q):
 ∃U1 U2,U=U1++U2∧U1.length=j∧U2.length=i-j∧Q=(A++V)++(U2++(U1++B))∧A++(V++(U++B))=(A++V)++(U1++(U2++B)):=by
 have e:U=U.take j++U.drop j:=(List.take_append_drop _ _).symm
 refine ⟨U.take j,U.drop j,e,by simp;omega,by simp;omega,?_,?_⟩
 ·rw [e,List.append_assoc] at h
  have:=RP.blocks (A:=A) (U:=U.take j) (C:=U.drop j) (V:=V) (B:=B) (n:=j) (Q:=Q) (by simp;omega) hv (by
   rw [show A.length+j+(U.drop j).length=A.length+i by simp;omega];exact h)
  rw [this,List.append_assoc]
 conv=>lhs;rw [e]
 simp only [List.append_assoc]
theorem OB.right{A U V B Q:List α}{i j:Nat}(hu:U.length=i)(hv:V.length=j)(hij:i≤j)(h:RP A.length (A.length+j) i (A++(U++(V++B))) Q):
 ∃V1 V2,V=V1++V2∧V1.length=j-i∧V2.length=i∧Q=A++(V2++(V1++(U++B)))∧A++(V++(U++B))=A++(V1++(V2++(U++B))):=by
 have e:V=V.take (j-i)++V.drop (j-i):=(List.take_append_drop _ _).symm
 refine ⟨V.take (j-i),V.drop (j-i),e,by simp;omega,by simp;omega,?_,?_⟩
 ·rw [e,List.append_assoc] at h
  have:=RP.blocks (A:=A) (U:=U) (C:=V.take (j-i)) (V:=V.drop (j-i)) (B:=B) (n:=i) (Q:=Q) hu (by simp;omega) (by
   rw [show A.length+i+(V.take (j-i)).length=A.length+j by simp;omega];exact h)
  exact this
 conv=>lhs;rw [e]
 simp only [List.append_assoc]
end
end Go.Proofs.YtohacgmhmbijmaaGreatDoor
namespace Go.Proofs.YtohacgmhmbijmaaGreatDoor
attribute [local irreducible] Region.wanted
open Go.RowKit
set_option linter.unusedVariables false
set_option maxRecDepth 100000
set_option maxHeartbeats 8000000
theorem EQ{α:Type}(enc:α→List Value)(m:Nat)(he:∀x,(enc x).length=m)(l:List α):(l.flatMap enc).length=l.length*m:=by
 induction l with
 | nil=>simp
 | cons x l ih=>rw [List.flatMap_cons,List.length_append,ih,he,List.length_cons,Nat.add_mul,Nat.one_mul,Nat.add_comm]
theorem FY(w:World)(g:Nat)(t:TypeId)(A B D:List Value):∀(vs B A:List Value)(w:World)(cur:Array Value),w.heap[g]? =some (.cells cur t)→cur.toList=A++(B++D)→B.length=vs.length→∃cur':Array Value,(w.setCells g A.length vs).heap[g]? =some (.cells cur' t)∧cur'.toList=A++(vs++D)∧Ek [g] w (w.setCells g A.length vs)
 | [],[],A,w,cur,h,e,_=>⟨cur,h,e,⟨rfl,rfl,rfl,Nat.le_refl _,fun _ _ _=>rfl⟩⟩
 | [],_::_,A,w,cur,h,e,hl=>by simp at hl
 | _::_,[],A,w,cur,h,e,hl=>by simp at hl
 | v::vs,b::B,A,w,cur,h,e,hl=>by
   have h1:=heap_setCell_same w g A.length cur t v h
   have e1:(cur.setIfInBounds A.length v).toList=(A++[v])++(B++D):=by
    rw [Array.toList_setIfInBounds,e];simp
   obtain ⟨cur',h2,h3,h4⟩:=FY w g t A B D vs B (A++[v]) _ _ h1 e1 (by simpa using hl)
   have e2:w.setCells g A.length (v::vs)=(w.setCell ⟨g,A.length,none⟩ v).setCells g (A++[v]).length vs:=by
    rw [World.setCells,List.length_append];rfl
   rw [e2]
   have h5:=Ek.setCell w ⟨g,A.length,none⟩ v
   exact ⟨cur',h2,by rw [h3];simp,⟨h4.os.trans h5.os,h4.tape.trans h5.tape,h4.output.trans h5.output,Nat.le_trans h5.size h4.size,fun k hk hm=>(h4.block k (Nat.lt_of_lt_of_le hk h5.size) hm).trans (h5.block k hk hm)⟩⟩
section
variable{α:Type}[Inhabited α]
theorem NF(enc:α→List Value)(m:Nat)(he:∀x,(enc x).length=m):∀(l:List α)(j:Nat),j<l.length→((l.flatMap enc).drop (j*m)).take m=enc (Am l j)
 | [],j,h=>by simp at h
 | x::l,0,h=>by rw [Nat.zero_mul,List.drop_zero,List.flatMap_cons,List.take_left' (he x)];simp [Am]
 | x::l,j+1,h=>by
   rw [List.flatMap_cons,Nat.add_mul,Nat.one_mul,Nat.add_comm,←List.drop_drop,List.drop_left' (he x),NF enc m he l j (by simpa using h)]
   simp [Am]
theorem Ot(enc:α→List Value)(m:Nat)(he:∀x,(enc x).length=m)(z:α):∀(l:List α)(j:Nat),j<l.length→∃A B,l.flatMap enc=A++(enc (Am l j)++B)∧(l.set j z).flatMap enc=A++(enc z++B)∧A.length=j*m
 | [],j,h=>by simp at h
 | x::l,0,h=>⟨[],l.flatMap enc,by simp [Am],by simp,by simp⟩
 | x::l,j+1,h=>by
   obtain ⟨A,B,e1,e2,e3⟩:=Ot enc m he z l j (by simpa using h)
   refine ⟨enc x++A,B,?_,?_,?_⟩
   ·rw [List.flatMap_cons,e1,List.append_assoc];simp [Am]
   ·rw [List.set_cons_succ,List.flatMap_cons,e2,List.append_assoc]
   rw [List.length_append,he,e3,Nat.add_mul,Nat.one_mul,Nat.add_comm]
end
section
variable{α:Type}{P:Program}{W w:World}{rs rs':List Ar}{Q:Exit→Act→World→Prop}{K:Act→World→Prop}{o:Oper}{a:Act}
theorem EY{e:TypeId}{n c m:Nat}{ad:Option Addr}{enc:α→List Value}{l:List α}(hS:St W w rs)(hp:AT (own e m ad n c (l.flatMap enc)) rs rs')(he:∀x,(enc x).length=m)(hm:0<m):l.length=n:=by
 have:=(hS.own hp).1
 rw [EQ enc m he] at this
 exact Nat.eq_of_mul_eq_mul_right hm this
theorem Pu(hS:St W w rs)(ty:TypeId)(x:Operand)(ho:o.op= .load ty x)(g q:Nat)(hx:a.eval x= .pointer (some ⟨g,q,none⟩))(m:Nat)(h1:Ey P ty m)(e:TypeId)(n c:Nat)(l:List α)(enc:α→List Value)(hp:AT (own e m (some ⟨g,0,none⟩) n c (l.flatMap enc)) rs rs')
 (inst:Inhabited α) (he:∀x,(enc x).length=m) (j:Nat) (hq:q=j*m) (hj:j<n) (h:K (a.put o.dst (.agg (enc (Am l j)).toArray)) w):o.wp P a w K Q:=by
 subst hq
 have hl:=(hS.own hp).1
 rw [EQ enc m he] at hl
 refine Eh ty x ho g _ hx m h1 (enc (Am l j)) (he _) ?_ h
 have:=MT (off:=j*m) (m:=m) hS hp
 rcases Nat.eq_zero_or_pos m with h0|h0
 ·have e0:enc (Am l j)=[]:=List.eq_nil_of_length_eq_zero (by rw [he,h0])
  rw [e0];intro i v hv;simp at hv
 have hln:l.length=n:=Nat.eq_of_mul_eq_mul_right h0 hl
 rwa [NF enc m he l j (by omega)] at this
theorem Mo(hS:St W w rs)(ty:TypeId)(x:Operand)(ho:o.op= .load ty x)(g q:Nat)(hx:a.eval x= .pointer (some ⟨g,q,none⟩))(h1:Lj P ty)(e:TypeId)(m n c:Nat)(l:List α)(enc:α→List Value)(hp:AT (own e m (some ⟨g,0,none⟩) n c (l.flatMap enc)) rs rs')
 (inst:Inhabited α) (he:∀x,(enc x).length=m) (j f:Nat) (hq:q=j*m+f) (hj:j<n) (v:Value) (hv:(enc (Am l j))[f]? =some v) (h:K (a.put o.dst v) w):o.wp P a w K Q:=by
 subst hq
 have hf:f<m:=by rw [←he (Am l j)];exact (List.getElem?_eq_some_iff.1 hv).1
 have hl:=EY hS hp he (by omega)
 refine Ah hS ty x ho g _ hx h1 e m n c _ hp v ?_ h
 have:=NF enc m he l j (by omega)
 rw [←this,List.getElem?_take,if_pos hf,List.getElem?_drop] at hv
 exact hv
theorem RL(hS:St W w rs)(ty:TypeId)(x:Operand)(ho:o.op= .load ty x)(g q:Nat)(hx:a.eval x= .pointer (some ⟨g,q,none⟩))(h1:Lj P ty)(e:TypeId)(m n c:Nat)(l:List α)(enc:α→List Value)(hp:AT (own e m (some ⟨g,0,none⟩) n c (l.flatMap enc)) rs rs')
 (inst:Inhabited α) (he:∀x,(enc x).length=m) (j:Nat) (hq:q=j*m) (hj:j<n) (v:Value) (hv:(enc (Am l j))[0]? =some v) (h:K (a.put o.dst v) w):o.wp P a w K Q:=
 Mo hS ty x ho g q hx h1 e m n c l enc hp inst he j 0 hq hj v hv h
theorem UO(hS:St W w rs)(ty:TypeId)(x y:Operand)(ho:o.op= .store ty x y)(g q:Nat)(hx:a.eval x= .pointer (some ⟨g,q,none⟩))(m:Nat)(h1:Ey P ty m)(e:TypeId)(n c:Nat)(l:List α)(enc:α→List Value)(hp:AT (own e m (some ⟨g,0,none⟩) n c (l.flatMap enc)) rs rs')
 (inst:Inhabited α) (he:∀x,(enc x).length=m) (hone:∀x,(enc x).all (·.oneCell')=true) (j:Nat) (hq:q=j*m) (hj:j<n) (z:α) (hy:a.eval y= .agg (enc z).toArray) (hd:o.dst=none) (h:∀w',St W w' (own e m (some ⟨g,0,none⟩) n c ((l.set j z).flatMap enc)::rs')→K a w'):o.wp P a w K Q:=by
 subst hq
 have hown:=hS.own hp
 have hlen:=hown.1
 rw [EQ enc m he] at hlen
 rcases hown.2 with ⟨h2,_⟩|⟨g',cap,cur,h2,hb,hg,hn,hc,hsz,htake⟩
 ·cases h2
 cases h2
 have hln:m=0∨l.length=n:=by
  rcases Nat.eq_zero_or_pos m with h0|h0
  ·exact .inl h0
  exact .inr (Nat.eq_of_mul_eq_mul_right h0 hlen)
 have hjm:j*m+m≤n*m:=by have:=Nat.mul_le_mul_right m hj;rwa [Nat.succ_mul] at this
 have hcm:n*m≤c*m:=Nat.mul_le_mul_right m hn
 refine wp_store_mid ty x y ho g (j*m) (enc z).toArray hx hy ?_ (by rw [h1.2];simp [he]) (by simpa using hone z) ?_
 ·intro i hi
  rw [List.size_toArray,he] at hi
  refine ⟨?_,frozen_of_row w g _ cur e hg⟩
  have:=F7 hS hp (k:=j*m+i) (v:=(l.flatMap enc)[j*m+i]'(by rw [EQ enc m he];omega)) (by rw [List.getElem?_eq_getElem])
  rw [this];rfl
 rw [show a.put o.dst undef=a by rw [hd];rfl]
 refine h _ ?_
 refine St.change (rs1:=[own e m (some ⟨g,0,none⟩) n c ((l.set j z).flatMap enc)]) (hS.pull hp) fun f1 k1 _ _=>?_
 obtain ⟨rfl,_⟩:=k1
 rcases hln with h0|hln
 ·have e0:∀y,enc y=[]:=fun y=>List.eq_nil_of_length_eq_zero (by rw [he,h0])
  have e1:∀l:List α,l.flatMap enc=[]:=fun l=>List.eq_nil_of_length_eq_zero (by rw [EQ enc m he,h0,Nat.mul_zero])
  rw [e0,e1]
  refine ⟨[g],⟨[g],[],rfl,⟨rfl,by simp [h0], .inr ⟨g,c,cur,rfl,hb,hg,hn,hc,hsz,by rw [h0];simp⟩⟩,rfl⟩,by simp,fun b hb=> .inl hb,⟨rfl,rfl,rfl,Nat.le_refl _,fun _ _ _=>rfl⟩⟩
 obtain ⟨A,B,e1,e2,e3⟩:=Ot enc m he z l j (by omega)
 have ecur:cur.toList=A++(enc (Am l j)++(B++cur.toList.drop (n*m))):=by
  conv=>lhs;rw [←List.take_append_drop (n*m) cur.toList,htake,e1]
  simp
 obtain ⟨cur',k2,k3,k4⟩:=FY w g e [] [] (B++cur.toList.drop (n*m)) (enc z) (enc (Am l j)) A w cur hg ecur (by rw [he,he])
 rw [←e3]
 have hAB:(A++(enc z++B)).length=n*m:=by rw [←e2,EQ enc m he,List.length_set,hln]
 refine ⟨[g],⟨[g],[],rfl,⟨rfl,by rw [EQ enc m he,List.length_set,hln], .inr ⟨g,c,cur',rfl,hb,k2,hn,hc,?_,?_⟩⟩,rfl⟩,by simp,fun b hb=> .inl hb,k4⟩
 ·have a1:=congrArg List.length k3
  have a2:=congrArg List.length ecur
  simp only [List.length_append,Array.length_toList,he] at a1 a2
  omega
 have a3:cur'.toList=(A++(enc z++B))++cur.toList.drop (n*m):=by rw [k3];simp
 rw [a3,List.take_left' hAB,e2]
end
structure DY where
 w:Int
 ad:Option Addr
 n:Nat
 c:Nat
instance:Inhabited DY:=⟨⟨0,none,0,0⟩⟩
def L3(p:DY):List Value:=[.int .i64 p.w, .slice p.ad p.n p.c]
theorem Cx:∀p,(L3 p).length=2:=fun _=>rfl
theorem NZ:∀p,(L3 p).all (·.oneCell')=true:=fun _=>rfl
end Go.Proofs.YtohacgmhmbijmaaGreatDoor
