/- What the laws RescueWhole TopTold FrameBack need, part 11. -/
import Derived.Test.YtohacgmhmbijmaaGreatDoorBaseSZ1
import Derived.Test.YtohacgmhmbijmaaGreatDoorBaseSZ2
import Derived.Test.YtohacgmhmbijmaaGreatDoorBaseSZ3
import Derived.Test.YtohacgmhmbijmaaGreatDoorBaseSZ5
import Derived.Test.YtohacgmhmbijmaaGreatDoorBaseSZ7
import Derived.Test.YtohacgmhmbijmaaGreatDoorBaseSZ8
import Derived.Test.YtohacgmhmbijmaaGreatDoorBaseSZ10
import Derived.Deep.MidRow
namespace Go.Proofs.YtohacgmhmbijmaaGreatDoor
attribute [local irreducible] Region.wanted
open Go.RowKit
set_option linter.unusedVariables false
set_option maxRecDepth 100000
set_option maxHeartbeats 8000000
theorem QZ(n every:Nat)(h:0<every):∀f at_,(D5 n every f at_).length≤n-at_
 | 0,_=>by simp [D5]
 | f+1,at_=>by
   unfold D5
   by_cases h0:at_<n
   ·rw [if_pos h0,List.length_cons]
    have:=QZ n every h f (at_+every)
    omega
   rw [if_neg h0];simp
theorem Oe(n every:Nat):(BN n every).length≤n+1:=by
 unfold BN
 by_cases h:every=0∨n=0
 ·rw [if_pos h];simp
 rw [if_neg h]
 have:=QZ n every (by omega) n 0
 omega
theorem Tl(n every:Nat):∀f at_,∀x∈D5 n every f at_,x.1≤x.2∧x.2≤n
 | 0,_,x,hx=>by simp [D5] at hx
 | f+1,at_,x,hx=>by
   unfold D5 at hx
   by_cases h0:at_<n
   ·rw [if_pos h0] at hx
    rcases List.mem_cons.1 hx with rfl|hx
    ·dsimp only;omega
    exact Tl n every f _ x hx
   rw [if_neg h0] at hx;cases hx
theorem Fp(n every:Nat):∀x∈BN n every,x.1≤x.2∧x.2≤n:=by
 intro x hx
 unfold BN at hx
 by_cases h:every=0∨n=0
 ·rw [if_pos h] at hx;simp at hx;subst hx;dsimp only;omega
 rw [if_neg h] at hx;exact Tl n every n 0 x hx
theorem Lv:∀(k:Nat)(b:List Int)(o:List (List Int))(m p:List Int)(ps:List (List Int))(ms:List Int),b.length≤k→D9 b o m p=some (ps,ms)→(∀x∈b,0≤x∧x<256)→(∀q∈o,∀x∈q,0≤x∧x<256)→(∀x∈p,0≤x∧x<256)→∀L:Nat,p.length+b.length≤L→(∀q∈o,q.length≤L)→∀q∈ps,(∀x∈q,0≤x∧x<256)∧q.length≤L
 | _,[],o,m,p,ps,ms,_,h,hb,ho,hp,L,hl,hol,q,hq=>by
   rw [D9] at h
   have e:=congrArg Prod.fst (Option.some.inj h)
   dsimp only at e
   subst e
   rcases List.mem_append.1 hq with hq|hq
   ·exact ⟨ho q hq,hol q hq⟩
   rw [List.mem_singleton.1 hq];exact ⟨hp,by simpa using hl⟩
 | 0,x::b,o,m,p,ps,ms,hk,h,hb,ho,hp,L,hl,hol,q,hq=>by simp at hk
 | k+1,x::b,o,m,p,ps,ms,hk,h,hb,ho,hp,L,hl,hol,q,hq=>by
   have hx:=hb x (by simp)
   simp only [List.length_cons] at hk hl
   rw [D9.eq_def] at h
   dsimp only at h
   by_cases h255:x=255
   ·rw [if_pos h255] at h
    match b,h,hb,hk,hl with
    | [],h,_,_,_=>cases h
    | y::b,h,hb,hk,hl=>
      dsimp only at h
      simp only [List.length_cons] at hk hl
      by_cases h1:y=255
      ·rw [if_pos h1] at h;cases h
      rw [if_neg h1] at h
      by_cases h0:y=0
      ·rw [if_pos h0] at h
       refine Lv k b o m _ ps ms (by omega) h (fun z hz=>hb z (by simp [hz])) ho (fun z hz=>?_) L (by simp;omega) hol q hq
       rcases List.mem_append.1 hz with hz|hz
       ·exact hp z hz
       simp at hz;rcases hz with rfl|rfl<;>omega
      rw [if_neg h0] at h
      refine Lv k b _ _ _ ps ms (by omega) h (fun z hz=>hb z (by simp [hz])) (fun r hr=>?_) (fun z hz=>by cases hz) L (by simp;omega) (fun r hr=>?_) q hq
      ·rcases List.mem_append.1 hr with hr|hr
       ·exact ho r hr
       rw [List.mem_singleton.1 hr];exact hp
      rcases List.mem_append.1 hr with hr|hr
      ·exact hol r hr
      rw [List.mem_singleton.1 hr];omega
   rw [if_neg h255] at h
   refine Lv k b o m _ ps ms (by omega) h (fun z hz=>hb z (by simp [hz])) ho (fun z hz=>?_) L (by simp;omega) hol q hq
   rcases List.mem_append.1 hz with hz|hz
   ·exact hp z hz
   rw [List.mem_singleton.1 hz];exact hx
theorem Iw{C1 S1 C2 S2 b:List Int}{z:Int}(h:(FQ C1 S1 C2 S2 b z).1=0):∃n:Nat,z=(n:Int)∧n≤400∧(FQ C1 S1 C2 S2 b z).2.length=n*64:=by
 obtain ⟨n,h1,h2,h3,_⟩:=SB h
 exact ⟨n,h1,h2,h3⟩
noncomputable def Iv(C1 S1 C2 S2:List Int):List (Nat×Nat)→List (List Int)→Int×List Int
 | [],_=>(0,[])
 | x::L,ps=>if (FQ C1 S1 C2 S2 (ps.headD []) ((x.2-x.1:Nat):Int)).1≠0 then ((FQ C1 S1 C2 S2 (ps.headD []) ((x.2-x.1:Nat):Int)).1,[]) else
   ((Iv C1 S1 C2 S2 L ps.tail).1,(FQ C1 S1 C2 S2 (ps.headD []) ((x.2-x.1:Nat):Int)).2++(Iv C1 S1 C2 S2 L ps.tail).2)
noncomputable def IM(C1 S1 C2 S2 b:List Int)(n every:Int):Int×List Int:=if Ks C1 S1 C2 S2 b n every=0 then match D9 b [] [] [] with
 | none=>(4,[])
 | some y=>if (Iv C1 S1 C2 S2 (BN n.toNat every.toNat) y.1).1=0 then Iv C1 S1 C2 S2 (BN n.toNat every.toNat) y.1 else ((Iv C1 S1 C2 S2 (BN n.toNat every.toNat) y.1).1,[])
 else (Ks C1 S1 C2 S2 b n every,[])
theorem TZ{W w:World}{pcs:List Pc}{rs rs':List Aq}(h:St W w rs)(p:AU (star (pcs.map Pc.res)) rs rs'){x:Pc}(hx:x∈pcs):x.ad=none→x.c=0:=by
 obtain ⟨s,hs⟩:=h.starGet p (List.mem_map.2 ⟨x,hx,rfl⟩)
 exact TU hs (show AU (own 5 1 x.ad x.xs.length x.c (x.xs.map (Value.int .u8))) (Pc.res x::s) s from .head)
theorem YZ{C1 S1 C2 S2 b:List Int}{n every:Int}(h:Ks C1 S1 C2 S2 b n every=0):Im n every:=by
 unfold Ks at h
 by_cases h1:JG C1 S1 C2 S2 b n every=0
 ·exact (Io h1).1
 rw [if_neg h1] at h;exact absurd h h1
theorem GS(w0:World)(C1 C2 S1 S2:List Int)(a1 a2:Option Addr)(n1 n2 k1 k2:Nat)(hC1:Ac C1 16)(hC2:Ac C2 16)(hs1:Sl w0 1 (.slice a1 n1 k1) n1 (S1.map (Value.int .i64)))(hs2:Sl w0 1 (.slice a2 n2 k2) n2 (S2.map (Value.int .i64)))(hn1:n1≤9223372036854775807)(hn2:n2≤9223372036854775807)(ad:Option Addr)(nb c:Nat)(b:List Int)(n every:Int)
 (hb:nb≤1000000000) (hv:Sl w0 1 (.slice ad nb c) nb (b.map (Value.int .u8))) (hx:∀x∈b,0≤x∧x<256) (hml:∃m,w0.cell? ⟨0,0,none⟩=some (.int .i64 m)):
 Calls Tryz.prog 20 #[.agg (AF [.ints C1, .val (.slice a1 n1 k1), .ints C2, .val (.slice a2 n2 k2)]).toArray, .slice ad nb c, .int .i64 n, .int .i64 every] w0 (GA w0 (IM C1 S1 C2 S2 b n every).1 (IM C1 S1 C2 S2 b n every).2):=by
 have hS:=St.start w0
 have HX:=AD hx
 have HML:=AD hml
 have hbl:b.length=nb:=by have:=hv.1;simpa using this
 clear hx hml
 by_cases hW:Ks C1 S1 C2 S2 b n every=0
 case neg=>
  obtain ⟨E,hE⟩:∃E,Ks C1 S1 C2 S2 b n every=E:=⟨_,rfl⟩
  have h0:E≠0:=by rw [←hE];exact hW
  have HE:=AD hE
  have HW:=AD (show IM C1 S1 C2 S2 b n every=(E,[]) by unfold IM;rw [if_neg hW,hE])
  clear hW hE
  go_enter Tryz.func20,Tryz.ntmps20
  repeat' (first
   | (refine AP 22 ?_);refine AG (f:=49) Tryz.call49 AA ?_;refine ⟨_,(Nf _ C1 C2 S1 S2 a1 a2 n1 n2 k1 k2 hC1 hC2 (hs1.ext hS.1) (hs2.ext hS.1) hn1 hn2 ad nb c b n every hb (hv.ext hS.1) HX.out),?_⟩;rintro e w ⟨hq,_⟩;rw [HE.out] at hq;obtain ⟨rfl,hE2⟩:=hq h0;clear hq;replace hS:=hS.ext hE2;clear hE2;refine AX ?_;go_step|refine X0 ?_|refine X4 ?_|refine X3 ?_|refine PE 4 ?_;clear hS;intro g4 w hS|refine PG ?_|refine AH ?_;go_step|fail)
  all_goals (try exact AQ)
  refine AM (xs:=[_,_]) rfl (.cons (AB.tmp rfl) (.cons (AB.tmp rfl) (.nil))) (by simp) rfl ?_
  exact Ex E (by rw [HW.out]) (by rw [HW.out]) hS.1
 have hok:=YZ hW
 unfold Im at hok
 obtain ⟨N,rfl⟩:∃N:Nat,n=(N:Int):=⟨n.toNat,by omega⟩
 obtain ⟨Ev,rfl⟩:∃N:Nat,every=(N:Int):=⟨every.toNat,by omega⟩
 have HW:=AD hW
 obtain ⟨M,hM⟩:∃M,(BN N Ev).length=M:=⟨_,rfl⟩
 have hM4:M≤401:=by rw [←hM];have:=Oe N Ev;omega
 have HM:=AD hM
 clear hW hM
 go_enter Tryz.func20,Tryz.ntmps20
 repeat' (first
  | (refine AP 22 ?_);refine AG (f:=49) Tryz.call49 AA ?_;refine ⟨_,(Nf _ C1 C2 S1 S2 a1 a2 n1 n2 k1 k2 hC1 hC2 (hs1.ext hS.1) (hs2.ext hS.1) hn1 hn2 ad nb c b (N:Int) (Ev:Int) hb (hv.ext hS.1) HX.out),?_⟩;rintro e w ⟨_,hq⟩;rw [Int.toNat_natCast,Int.toNat_natCast,HM.out] at hq;obtain ⟨pcs,ms,ao,co,hsp,hpl,rfl,hS2⟩:=hq HW.out;clear hq;have HSP:=AD hsp;have HPL:=AD hpl;clear hsp hpl;replace hS:=hS.call hS2;dsimp only [List.cons_append,List.nil_append] at hS;clear hS2;refine AX ?_;go_step|refine X0 ?_|refine X4 ?_|refine X3 ?_|refine PE 4 ?_;clear hS;intro g4 w hS|refine PG ?_|refine AH ?_;go_step|fail)
 all_goals (try exact AQ)
 have hin:=Lv b.length b [] [] [] _ ms (Nat.le_refl _) HSP.out HX.out (fun q hq=>(by cases hq)) (fun x hx=>(by cases hx)) nb (by simp;omega) (fun q hq=>(by cases hq))
 have HIN:=AD hin
 obtain ⟨D,hD⟩:∃D,Iv C1 S1 C2 S2 (BN N Ev) (pcs.map (·.xs))=D:=⟨_,rfl⟩
 have HSC:=AD (show IM C1 S1 C2 S2 b N Ev=if D.1=0 then D else (D.1,[]) by
  unfold IM;rw [if_pos HW.out,HSP.out];dsimp only;rw [Int.toNat_natCast,Int.toNat_natCast,hD])
 have HD:=AD hD
 clear hin hD hbl
 repeat' (first
  | (refine AP 30 ?_);refine AG (f:=50) Tryz.call50 AA ?_;refine ⟨_,(EM _ N Ev (by omega) (by omega)),?_⟩;rintro e w ⟨a3,c3,m3,hm3,rfl,hS2⟩;obtain rfl:M=m3:=(by rw [←hm3];exact HM.out.symm);clear hm3;replace hS:=hS.call1 hS2;clear hS2;refine AX ?_;go_step|refine X1 ?_|refine UD ?_|refine AH ?_;go_step|fail)
 replace hS:=hS.nilk 26 64 .i64
 go_loopg [12,32] M (fun gk ov kv w=>∃(k q:Nat) (acc:List Int) (ao2:Option Addr) (co2:Nat),gk+k=M∧kv= .int .i64 k∧ov= .slice ao2 q co2∧q≤400*k∧Hid (acc.length=q*64)∧CW (D=((Iv C1 S1 C2 S2 ((BN N Ev).drop k) ((pcs.map (·.xs)).drop k)).1,acc++(Iv C1 S1 C2 S2 ((BN N Ev).drop k) ((pcs.map (·.xs)).drop k)).2))∧St w0 w [own 26 64 ao2 q co2 (acc.map (Value.int .i64)),prt g4 [.ints C1, .val (.slice a1 n1 k1), .ints C2, .val (.slice a2 n2 k2)],own 35 1 ao M co (pcs.map Pc.val),star (pcs.map Pc.res),own 94 2 a3 M c3 ((O5 (BN N Ev)).map (Value.int .i64))])
 case atStart=>exact ⟨0,0,[],none,0,by omega,rfl,rfl,by omega,AD rfl,⟨by rw [←HD.out];rfl⟩,hS.sub AV⟩
 case round=>
  clear hS
  obtain ⟨k,q,acc,ao2,co2,hk,rfl,rfl,hq4,HQ,HV,hS⟩:=hrel
  by_cases hlt:k<M
  ·obtain ⟨⟨f,t⟩,hx⟩:∃x,(BN N Ev)[k]? =some x:=⟨_,List.getElem?_eq_getElem (by rw [HM.out];exact hlt)⟩
   obtain ⟨⟨pa,pcc,px⟩,hpx⟩:∃x,pcs[k]? =some x:=⟨_,List.getElem?_eq_getElem (by rw [HPL.out];exact hlt)⟩
   have hft:=Fp N Ev _ (List.mem_of_getElem? hx)
   dsimp only at hft
   have hmem:(⟨pa,pcc,px⟩:Pc)∈pcs:=List.mem_of_getElem? hpx
   have hpin:=HIN.out px (List.mem_map.2 ⟨_,hmem,rfl⟩)
   have hpl:px.length≤nb:=hpin.2
   have HPR:=AD hpin.1
   have hseg:=Ix (BN N Ev) k _ hx
   dsimp only at hseg
   have hpv:(pcs.map Pc.val)[k]? =some (.slice pa px.length pcc):=by rw [List.getElem?_map,hpx];rfl
   have hd1:(BN N Ev).drop k=(f,t)::(BN N Ev).drop (k+1):=by
    rw [List.drop_eq_getElem_cons (by rw [HM.out];exact hlt)]
    rw [List.getElem?_eq_getElem (by rw [HM.out];exact hlt)] at hx
    rw [Option.some.inj hx]
   have hd2:(pcs.map (·.xs)).drop k=px::(pcs.map (·.xs)).drop (k+1):=by
    rw [List.drop_eq_getElem_cons (by rw [List.length_map,HPL.out];exact hlt)]
    rw [List.getElem?_eq_getElem (by rw [HPL.out];exact hlt)] at hpx
    rw [List.getElem_map,Option.some.inj hpx]
   obtain ⟨⟨E,B⟩,hR⟩:∃R,FQ C1 S1 C2 S2 px ((t-f:Nat):Int)=R:=⟨_,rfl⟩
   have hstep:CW (Iv C1 S1 C2 S2 ((BN N Ev).drop k) ((pcs.map (·.xs)).drop k)=if E≠0 then (E,[]) else ((Iv C1 S1 C2 S2 ((BN N Ev).drop (k+1)) ((pcs.map (·.xs)).drop (k+1))).1,B++(Iv C1 S1 C2 S2 ((BN N Ev).drop (k+1)) ((pcs.map (·.xs)).drop (k+1))).2)):=⟨by rw [hd1,hd2,Iv];simp only [List.headD_cons,List.tail_cons,hR]⟩
   have HBL:CW (E=0→B.length=(t-f)*64):=⟨fun h=>by
    obtain ⟨n',e1,e2,e3⟩:=Iw (C1:=C1) (S1:=S1) (C2:=C2) (S2:=S2) (b:=px) (z:=((t-f:Nat):Int)) (by rw [hR];exact h)
    rw [hR] at e3
    have:n'=t-f:=by omega
    rw [←this];exact e3⟩
   have HR:=AD hR
   have HMEM:=AD hmem
   obtain ⟨g3,rfl⟩:=Bq (a:=a3) hS AK (by omega)
   obtain ⟨g1,rfl⟩:=Bq (a:=ao) hS AK (by omega)
   clear hx hpx hpin hd1 hd2 hR hmem
   repeat' (first
    | refine X0 ?_|refine X2 ?_|refine UP 35 ?_|refine UJ ?_|refine eb 14 ?_;clear hS;intro g14 w hS|refine eg ?_;clear hS;intro w hS|refine AH ?_;go_step|fail)
   all_goals (try exact AQ)
   replace hS:St w0 w [blk g14 [.int .i64 (f:Nat), .int .i64 (t:Nat)],own 26 64 ao2 q co2 (acc.map (Value.int .i64)),prt g4 [.ints C1, .val (.slice a1 n1 k1), .ints C2, .val (.slice a2 n2 k2)],own 35 1 (some ⟨g1,0,none⟩) M co (pcs.map Pc.val),star (pcs.map Pc.res),own 94 2 (some ⟨g3,0,none⟩) M c3 ((O5 (BN N Ev)).map (Value.int .i64))]:=hS
   refine AR [10] (fun w=>St w0 w [prt g4 [.ints C1, .val (.slice a1 n1 k1), .ints C2, .val (.slice a2 n2 k2)],own 35 1 (some ⟨g1,0,none⟩) M co (pcs.map Pc.val),blk g14 [.int .i64 (f:Nat), .int .i64 (t:Nat)]]) AA ?_
   replace hS:=hS.drew
   focus
    refine bu 0 [10,11,12,13,14,15] ?_
    refine Ab 1 ?_
    refine Ab 2 ?_
    refine BX 3 BU (V.indexSl Tryz.underlying88 cB rfl rfl BJ (by omega) (Nat.mul_one _) BK) ?_;go_step
    refine iN 4 [10,11,12,13,14,15] ?_
    refine BX 5 BU (V.fieldAddr OE rfl BK) ?_;go_step
    refine Y5 6 [9,10,11,12,13,14,15] ?_
    refine BX 7 BU (V.fieldAddr OD rfl BK) ?_;go_step
    refine Y5 8 [9,10,11,12,13,14,15] ?_
    (refine Bt 9 (.int _ (((t-f:Nat):Int))) Ar AA AA AA Cp (V.as (V.subI rfl rfl (by omega)) (by omega)) AA ?_)
    go_step
    refine At 10 ?_
    refine AY (f:=51) rfl Tryz.call51 (He _ C1 C2 S1 S2 a1 a2 n1 n2 k1 k2 hC1 hC2 (hs1.ext hS.1) (hs2.ext hS.1) hn1 hn2 pa px.length pcc px _ (by omega) (TY hS AK HMEM.out) (TZ hS AK HMEM.out) HPR.out (HML.out.imp fun m h=>hS.1.cell h) _ HR.out) ?_;rintro e w ⟨al,cl,ml,hml,rfl,hS2⟩;have HMM:=AD hml;dsimp only at hS2⊢;replace hS:=hS.call1 hS2;clear hS2 hml;refine ⟨_,rfl,?_⟩
    refine ⟨fun h=>absurd (by decide) h,?_⟩
    refine AL ?_
    go_step
    refine Ab 11 ?_
    refine Y2 12 ?_
    refine Y2 13 ?_
    refine Ab 14 ?_
    refine Ab 15 ?_
    refine AE AA ?_ _
   all_goals
    repeat' (first|(refine AH ?_;go_step)|fail)
    by_cases hE0:E=0
    case neg=>
     have hD1:CW (D=(E,acc)):=⟨by rw [HV.out,hstep.out,if_pos hE0];simp⟩
     have HS1:=AD (show IM C1 S1 C2 S2 b N Ev=(E,[]) by rw [HSC.out,hD1.out,if_neg hE0])
     clear HV hstep HBL hD1
     repeat' (first
      | refine X0 ?_|refine X3 ?_|refine AH ?_;go_step|fail)
     all_goals (try exact AQ)
     refine AM (xs:=[_,_]) rfl (.cons (AB.tmp rfl) (.cons (AB.tmp rfl) (.nil))) (by simp) rfl ?_
     exact Ex E (by rw [HS1.out]) (by rw [HS1.out]) hS.1
    have hbl:=HBL.out hE0
    have HV2:CW (D=((Iv C1 S1 C2 S2 ((BN N Ev).drop (k+1)) ((pcs.map (·.xs)).drop (k+1))).1,(acc++B)++(Iv C1 S1 C2 S2 ((BN N Ev).drop (k+1)) ((pcs.map (·.xs)).drop (k+1))).2)):=⟨by rw [HV.out,hstep.out,if_neg (by simpa using hE0),List.append_assoc]⟩
    have hml2:ml=t-f:=by have h9:B.length=ml*64:=HMM.out;omega
    clear HV hstep HBL
    subst hE0
    repeat' (first
     | refine X1 ?_|refine X3 ?_|refine AH ?_;go_step|fail)
    all_goals (try exact AQ)
    repeat' (first
     | refine X0 ?_|refine X7 ?_|refine eh 56 ?_;clear hS;intro ad56 c56 w hS|refine AH ?_;go_step|fail)
    go_roundg (gk-1)
    case measure=>omega
    case rel=>exact ⟨k+1,q+ml,acc++B,_,_,by omega,by go_num,rfl,by omega,AD (by rw [List.length_append,HQ.out,HMM.out];omega),HV2,hS.sub AV⟩
  obtain rfl:k=M:=by omega
  have hD0:CW (D=(0,acc)):=⟨by rw [HV.out,List.drop_of_length_le (by rw [HM.out];omega),Iv,List.append_nil]⟩
  have HS1:=AD (show IM C1 S1 C2 S2 b N Ev=(0,acc) by rw [HSC.out,hD0.out,if_pos rfl])
  clear HV
  repeat' (first
   | refine X0 ?_|refine X2 ?_|refine AH ?_;go_step|fail)
  all_goals (try exact AQ)
  repeat' (first
   | refine AH ?_;go_step|fail)
  refine AM (xs:=[_,_]) rfl (.cons (AB.tmp rfl) (.cons (AB.tmp rfl) (.nil))) (by simp) rfl ?_
  exact ⟨ao2,co2,q,by rw [HS1.out];exact HQ.out,by rw [HS1.out];rfl,by rw [HS1.out];exact hS.sub AV⟩
section
variable{P:Program}{Q:Exit→Act→World→Prop}{a:Act}{W w:World}{c:Code}
theorem Yd{F:Nat→Nat→Nat→Nat→Act}(rs:Nat→Nat→Nat→Nat→List Aq)(h:c.wp P (fun e a w=>e= .normal∧∃g g' g2 g3,a=F g g' g2 g3∧St W w (rs g g' g2 g3)) a w)(k:∀g g' g2 g3 w,St W w (rs g g' g2 g3)→Q .normal (F g g' g2 g3) w):c.wp P Q a w:=
 Code.wp_mono (fun e a w ⟨he,g,g',g2,g3,ha,hS⟩=>by subst he;subst ha;exact k g g' g2 g3 w hS) h
end
def Ui(g5 g6 g8 g9:Nat)(s:List Int×List Int):Aq:=star [blk g5 [.slice (some ⟨g8,0,none⟩) 256 256],blk g6 [.slice (some ⟨g9,0,none⟩) 256 256],own 3 1 (some ⟨g8,0,none⟩) 256 256 ((Cu s.1).map (Value.int .i64)),own 3 1 (some ⟨g9,0,none⟩) 256 256 ((Cu s.2).map (Value.int .i64))]
theorem RN(W w0:World)(rs rs':List Aq)(g5 g6 g8 g9:Nat)(A B:List Int)(t0 t1 t2:Int)(b:Bool)(hS:St W w0 rs)(hp:AU (Ui g5 g6 g8 g9 (A,B)) rs rs')(hb:A.length+B.length≤1000000)(ht:0≤t0∧t0<256):
 Calls Tryz.prog 101 #[.agg #[.int .i64 t0, .int .i64 t1, .int .i64 t2], .bool b, .pointer (some ⟨g5,0,none⟩), .pointer (some ⟨g6,0,none⟩)] w0 fun e w=>e= .returned (.int .i64 0)∧St W w (Ui g5 g6 g8 g9 (B6 (A,B) (t0,t1,t2) b).2::rs'):=by
 obtain ⟨_,hS⟩:=(hS.pull hp).open
 dsimp only [List.cons_append,List.nil_append] at hS
 obtain ⟨q,rfl⟩:∃q:Nat,t0=(q:Int):=⟨t0.toNat,by omega⟩
 have hq:q<256:=by omega
 have hA:=Ho A hq
 have hB:=Ho B hq
 have HCA:=AD (PT A hq)
 have HCB:=AD (PT B hq)
 clear hp
 cases b
 ·have HR:=AD (show (B6 (A,B) ((q:Int),t1,t2) false).2=(A,B++[(q:Int)]) from rfl)
  go_enter Tryz.func101,Tryz.ntmps101
  repeat' (first
   | refine X0 ?_|refine ZK 4 ?_;clear hS;intro g4 w hS|refine AH ?_;go_step|fail)
  repeat' (first
   | refine X8 ?_|refine WH ?_|refine Ys 18 ?_|refine X7 ?_|refine Ys 21 ?_|refine dA ?_|refine fT ?_|refine ch ?_;clear hS;intro w hS|refine AH ?_;go_step|fail)
  go_ret
  rw [HR.out]
  refine ⟨rfl,St.close () ?_⟩
  dsimp only [List.cons_append,List.nil_append]
  rw [←HCB.out]
  exact hS.sub AV
 have HR:=AD (show (B6 (A,B) ((q:Int),t1,t2) true).2=(A++[(q:Int)],B) from rfl)
 go_enter Tryz.func101,Tryz.ntmps101
 repeat' (first
  | refine X0 ?_|refine WH ?_|refine Ys 11 ?_|refine X7 ?_|refine Ys 14 ?_|refine ZK 4 ?_;clear hS;intro g4 w hS|refine dA ?_|refine fT ?_|refine ch ?_;clear hS;intro w hS|refine AH ?_;go_step|fail)
 repeat' (first
  | refine AH ?_;go_step|fail)
 go_ret
 rw [HR.out]
 refine ⟨rfl,St.close () ?_⟩
 dsimp only [List.cons_append,List.nil_append]
 rw [←HCA.out]
 exact hS.sub AV
def Wf(W:World)(g5 g6 g8 g9:Nat):eZ W (List Int×List Int) where
 step:=B6
 res:=Ui g5 g6 g8 g9
 ok s m:=s.1.length+s.2.length+m≤1000000
 K:=101
 caps:=#[.pointer (some ⟨g5,0,none⟩), .pointer (some ⟨g6,0,none⟩)]
 inv:=Tryz.call101
 okS s m t b h _ _:=by
  cases b<;>simp [B6]<;>omega
 okM s m k h hk:=by omega
 call w rs rs' s m t0 t1 t2 b er s' hS hp h ht hst:=by
  obtain ⟨A,B⟩:=s
  have e1:er=0:=by have:=congrArg Prod.fst hst;exact this.symm
  have e2:s'=(B6 (A,B) (t0,t1,t2) b).2:=by rw [hst]
  subst e1;subst e2
  exact RN W w rs rs' g5 g6 g8 g9 A B t0 t1 t2 b hS hp (by dsimp only at h;omega) ht.1
theorem Sp(W w0:World)(rs rs':List Aq)(g5 g6 g8 g9:Nat)(ad:Option Addr)(n c:Nat)(l:List Int)(E:Int)(hE:Be l n=E)(hn:n≤9223372036854775807)(hv:Sl W 64 (.slice ad n c) n (l.map (Value.int .i64)))(hS:St W w0 rs)(hp:AU (Ui g5 g6 g8 g9 ([],[])) rs rs'):
 Calls Tryz.prog 100 #[.slice ad n c, .func (.func 101) #[] #[.pointer (some ⟨g5,0,none⟩), .pointer (some ⟨g6,0,none⟩)]] w0 fun e w=>e= .returned (.int .i64 E)∧∃s',(E=0→s'=(Q5 l n,L4 l n))∧St W w (Ui g5 g6 g8 g9 s'::rs'):=by
 refine (Pd (Wf W g5 g6 g8 g9) w0 rs rs' ([],[]) ad n c l hn hv hS hp (by show (0+0+25600≤1000000);omega)).mono ?_
 rintro e w ⟨s',hs',rfl,hS⟩
 have h2:Dq (Wf W g5 g6 g8 g9).step (DT l 0 n) ([],[])=(0,Q5 l n,L4 l n):=Kc l n
 rw [h2] at hs'⊢
 rw [hE] at hs'⊢
 refine ⟨?_,s',hs',hS⟩
 by_cases h0:E=0
 ·rw [if_pos h0,h0]
 rw [if_neg h0]
def UB(w0:World)(l:List Int)(n:Nat)(e:Ending)(w:World):Prop:=
 (Be l n=0→∃g1 g2,e= .returned (.tuple #[.slice (some ⟨g1,0,none⟩) 256 256, .slice (some ⟨g2,0,none⟩) 256 256, .int .i64 0])∧St w0 w [own 3 1 (some ⟨g1,0,none⟩) 256 256 ((Cu (Q5 l n)).map (Value.int .i64)),own 3 1 (some ⟨g2,0,none⟩) 256 256 ((Cu (L4 l n)).map (Value.int .i64))])∧
 (Be l n≠0→e= .returned (.tuple #[.slice none 0 0, .slice none 0 0, .int .i64 (Be l n)])∧Af w0 w)
theorem FE(w0:World)(ad:Option Addr)(n c:Nat)(l:List Int)(hn:n≤9223372036854775807)(hv:Sl w0 64 (.slice ad n c) n (l.map (Value.int .i64))):
 Calls Tryz.prog 71 #[.slice ad n c] w0 (UB w0 l n):=by
 have hS:=St.start w0
 obtain ⟨E,hE⟩:∃E,Be l n=E:=⟨_,rfl⟩
 have HE:=AD hE
 clear hE
 go_enter Tryz.func71,Tryz.ntmps71
 repeat' (first
  | refine X8 ?_|refine AH ?_;go_step|fail)
 apply Yd (rs:=fun g5 g6 g8 g9=>[Ui g5 g6 g8 g9 ([],[])])
 ·refine AR [] (fun _=>True) AA ?_
  replace hS:=hS.drew
  focus
   refine BL [0,1,2,3] AA (by simp) (.cons Ar AA ?_ (.cons Ar AA ?_ (.cons Ar AA ?_ (.cons Ar AA ?_ (.nil)))))
   rotate_left 3
   focus
    refine Y3 ?_;clear hS;intro g6 w hS
    refine BL [0,1,2] AA (by simp) (.cons Ar AA ?_ (.cons Ar AA ?_ (.cons Ar AA ?_ (.nil))))
    rotate_left 2
    focus
     refine Y3 ?_;clear hS;intro g5 w hS
     refine BL [0,1] AA (by simp) (.cons Ar AA ?_ (.cons Ar AA ?_ (.nil)))
     rotate_left 1
     focus
      refine Y1 ?_;clear hS;intro g9 w hS
      refine At 0 ?_
      refine Y1 ?_;clear hS;intro g8 w hS
      refine At 4 ?_
      refine Y0 ?_;clear hS;intro w hS
      refine At 5 ?_
      refine Y0 ?_;clear hS;intro w hS
      refine AE AA ?_ _
      exact ⟨rfl,g5,g6,g8,g9,rfl,St.close () (by dsimp only [List.cons_append,List.nil_append];rw [Ay];exact hS.sub AV)⟩
     rotate_right 1
     focus
      refine Y1 ?_;clear hS;intro g8 w hS
      refine BL [1,4] AA (by simp) (.cons Ar AA ?_ (.cons Ar AA ?_ (.nil)))
      rotate_left 1
      focus
       refine Y0 ?_;clear hS;intro w hS
       refine At 1 ?_
       refine Y1 ?_;clear hS;intro g9 w hS
       refine At 5 ?_
       refine Y0 ?_;clear hS;intro w hS
       refine AE AA ?_ _
       exact ⟨rfl,g5,g6,g8,g9,rfl,St.close () (by dsimp only [List.cons_append,List.nil_append];rw [Ay];exact hS.sub AV)⟩
      rotate_right 1
      focus
       refine Y1 ?_;clear hS;intro g9 w hS
       refine At 4 ?_
       refine Y0 ?_;clear hS;intro w hS
       refine At 5 ?_
       refine Y0 ?_;clear hS;intro w hS
       refine AE AA ?_ _
       exact ⟨rfl,g5,g6,g8,g9,rfl,St.close () (by dsimp only [List.cons_append,List.nil_append];rw [Ay];exact hS.sub AV)⟩
    rotate_right 1
    focus
     refine Y1 ?_;clear hS;intro g9 w hS
     refine BL [0,2] AA (by simp) (.cons Ar AA ?_ (.cons Ar AA ?_ (.nil)))
     rotate_left 1
     focus
      refine Y3 ?_;clear hS;intro g5 w hS
      refine At 0 ?_
      refine Y1 ?_;clear hS;intro g8 w hS
      refine At 4 ?_
      refine Y0 ?_;clear hS;intro w hS
      refine At 5 ?_
      refine Y0 ?_;clear hS;intro w hS
      refine AE AA ?_ _
      exact ⟨rfl,g5,g6,g8,g9,rfl,St.close () (by dsimp only [List.cons_append,List.nil_append];rw [Ay];exact hS.sub AV)⟩
     rotate_right 1
     focus
      refine Y1 ?_;clear hS;intro g8 w hS
      refine At 2 ?_
      refine Y3 ?_;clear hS;intro g5 w hS
      refine At 4 ?_
      refine Y0 ?_;clear hS;intro w hS
      refine At 5 ?_
      refine Y0 ?_;clear hS;intro w hS
      refine AE AA ?_ _
      exact ⟨rfl,g5,g6,g8,g9,rfl,St.close () (by dsimp only [List.cons_append,List.nil_append];rw [Ay];exact hS.sub AV)⟩
    rotate_right 1
    focus
     refine Y1 ?_;clear hS;intro g8 w hS
     refine BL [1,2] AA (by simp) (.cons Ar AA ?_ (.cons Ar AA ?_ (.nil)))
     rotate_left 1
     focus
      refine Y3 ?_;clear hS;intro g5 w hS
      refine BL [1,4] AA (by simp) (.cons Ar AA ?_ (.cons Ar AA ?_ (.nil)))
      rotate_left 1
      focus
       refine Y0 ?_;clear hS;intro w hS
       refine At 1 ?_
       refine Y1 ?_;clear hS;intro g9 w hS
       refine At 5 ?_
       refine Y0 ?_;clear hS;intro w hS
       refine AE AA ?_ _
       exact ⟨rfl,g5,g6,g8,g9,rfl,St.close () (by dsimp only [List.cons_append,List.nil_append];rw [Ay];exact hS.sub AV)⟩
      rotate_right 1
      focus
       refine Y1 ?_;clear hS;intro g9 w hS
       refine At 4 ?_
       refine Y0 ?_;clear hS;intro w hS
       refine At 5 ?_
       refine Y0 ?_;clear hS;intro w hS
       refine AE AA ?_ _
       exact ⟨rfl,g5,g6,g8,g9,rfl,St.close () (by dsimp only [List.cons_append,List.nil_append];rw [Ay];exact hS.sub AV)⟩
     rotate_right 1
     focus
      refine Y1 ?_;clear hS;intro g9 w hS
      refine At 2 ?_
      refine Y3 ?_;clear hS;intro g5 w hS
      refine At 4 ?_
      refine Y0 ?_;clear hS;intro w hS
      refine At 5 ?_
      refine Y0 ?_;clear hS;intro w hS
      refine AE AA ?_ _
      exact ⟨rfl,g5,g6,g8,g9,rfl,St.close () (by dsimp only [List.cons_append,List.nil_append];rw [Ay];exact hS.sub AV)⟩
   rotate_right 1
   focus
    refine Y3 ?_;clear hS;intro g5 w hS
    refine BL [0,1,3] AA (by simp) (.cons Ar AA ?_ (.cons Ar AA ?_ (.cons Ar AA ?_ (.nil))))
    rotate_left 2
    focus
     refine Y3 ?_;clear hS;intro g6 w hS
     refine BL [0,1] AA (by simp) (.cons Ar AA ?_ (.cons Ar AA ?_ (.nil)))
     rotate_left 1
     focus
      refine Y1 ?_;clear hS;intro g9 w hS
      refine At 0 ?_
      refine Y1 ?_;clear hS;intro g8 w hS
      refine At 4 ?_
      refine Y0 ?_;clear hS;intro w hS
      refine At 5 ?_
      refine Y0 ?_;clear hS;intro w hS
      refine AE AA ?_ _
      exact ⟨rfl,g5,g6,g8,g9,rfl,St.close () (by dsimp only [List.cons_append,List.nil_append];rw [Ay];exact hS.sub AV)⟩
     rotate_right 1
     focus
      refine Y1 ?_;clear hS;intro g8 w hS
      refine BL [1,4] AA (by simp) (.cons Ar AA ?_ (.cons Ar AA ?_ (.nil)))
      rotate_left 1
      focus
       refine Y0 ?_;clear hS;intro w hS
       refine At 1 ?_
       refine Y1 ?_;clear hS;intro g9 w hS
       refine At 5 ?_
       refine Y0 ?_;clear hS;intro w hS
       refine AE AA ?_ _
       exact ⟨rfl,g5,g6,g8,g9,rfl,St.close () (by dsimp only [List.cons_append,List.nil_append];rw [Ay];exact hS.sub AV)⟩
      rotate_right 1
      focus
       refine Y1 ?_;clear hS;intro g9 w hS
       refine At 4 ?_
       refine Y0 ?_;clear hS;intro w hS
       refine At 5 ?_
       refine Y0 ?_;clear hS;intro w hS
       refine AE AA ?_ _
       exact ⟨rfl,g5,g6,g8,g9,rfl,St.close () (by dsimp only [List.cons_append,List.nil_append];rw [Ay];exact hS.sub AV)⟩
    rotate_right 1
    focus
     refine Y1 ?_;clear hS;intro g9 w hS
     refine BL [0,3] AA (by simp) (.cons Ar AA ?_ (.cons Ar AA ?_ (.nil)))
     rotate_left 1
     focus
      refine Y3 ?_;clear hS;intro g6 w hS
      refine At 0 ?_
      refine Y1 ?_;clear hS;intro g8 w hS
      refine At 4 ?_
      refine Y0 ?_;clear hS;intro w hS
      refine At 5 ?_
      refine Y0 ?_;clear hS;intro w hS
      refine AE AA ?_ _
      exact ⟨rfl,g5,g6,g8,g9,rfl,St.close () (by dsimp only [List.cons_append,List.nil_append];rw [Ay];exact hS.sub AV)⟩
     rotate_right 1
     focus
      refine Y1 ?_;clear hS;intro g8 w hS
      refine At 3 ?_
      refine Y3 ?_;clear hS;intro g6 w hS
      refine At 4 ?_
      refine Y0 ?_;clear hS;intro w hS
      refine At 5 ?_
      refine Y0 ?_;clear hS;intro w hS
      refine AE AA ?_ _
      exact ⟨rfl,g5,g6,g8,g9,rfl,St.close () (by dsimp only [List.cons_append,List.nil_append];rw [Ay];exact hS.sub AV)⟩
    rotate_right 1
    focus
     refine Y1 ?_;clear hS;intro g8 w hS
     refine BL [1,3] AA (by simp) (.cons Ar AA ?_ (.cons Ar AA ?_ (.nil)))
     rotate_left 1
     focus
      refine Y3 ?_;clear hS;intro g6 w hS
      refine BL [1,4] AA (by simp) (.cons Ar AA ?_ (.cons Ar AA ?_ (.nil)))
      rotate_left 1
      focus
       refine Y0 ?_;clear hS;intro w hS
       refine At 1 ?_
       refine Y1 ?_;clear hS;intro g9 w hS
       refine At 5 ?_
       refine Y0 ?_;clear hS;intro w hS
       refine AE AA ?_ _
       exact ⟨rfl,g5,g6,g8,g9,rfl,St.close () (by dsimp only [List.cons_append,List.nil_append];rw [Ay];exact hS.sub AV)⟩
      rotate_right 1
      focus
       refine Y1 ?_;clear hS;intro g9 w hS
       refine At 4 ?_
       refine Y0 ?_;clear hS;intro w hS
       refine At 5 ?_
       refine Y0 ?_;clear hS;intro w hS
       refine AE AA ?_ _
       exact ⟨rfl,g5,g6,g8,g9,rfl,St.close () (by dsimp only [List.cons_append,List.nil_append];rw [Ay];exact hS.sub AV)⟩
     rotate_right 1
     focus
      refine Y1 ?_;clear hS;intro g9 w hS
      refine At 3 ?_
      refine Y3 ?_;clear hS;intro g6 w hS
      refine At 4 ?_
      refine Y0 ?_;clear hS;intro w hS
      refine At 5 ?_
      refine Y0 ?_;clear hS;intro w hS
      refine AE AA ?_ _
      exact ⟨rfl,g5,g6,g8,g9,rfl,St.close () (by dsimp only [List.cons_append,List.nil_append];rw [Ay];exact hS.sub AV)⟩
   rotate_right 1
   focus
    refine Y1 ?_;clear hS;intro g9 w hS
    refine BL [0,2,3] AA (by simp) (.cons Ar AA ?_ (.cons Ar AA ?_ (.cons Ar AA ?_ (.nil))))
    rotate_left 2
    focus
     refine Y3 ?_;clear hS;intro g6 w hS
     refine BL [0,2] AA (by simp) (.cons Ar AA ?_ (.cons Ar AA ?_ (.nil)))
     rotate_left 1
     focus
      refine Y3 ?_;clear hS;intro g5 w hS
      refine At 0 ?_
      refine Y1 ?_;clear hS;intro g8 w hS
      refine At 4 ?_
      refine Y0 ?_;clear hS;intro w hS
      refine At 5 ?_
      refine Y0 ?_;clear hS;intro w hS
      refine AE AA ?_ _
      exact ⟨rfl,g5,g6,g8,g9,rfl,St.close () (by dsimp only [List.cons_append,List.nil_append];rw [Ay];exact hS.sub AV)⟩
     rotate_right 1
     focus
      refine Y1 ?_;clear hS;intro g8 w hS
      refine At 2 ?_
      refine Y3 ?_;clear hS;intro g5 w hS
      refine At 4 ?_
      refine Y0 ?_;clear hS;intro w hS
      refine At 5 ?_
      refine Y0 ?_;clear hS;intro w hS
      refine AE AA ?_ _
      exact ⟨rfl,g5,g6,g8,g9,rfl,St.close () (by dsimp only [List.cons_append,List.nil_append];rw [Ay];exact hS.sub AV)⟩
    rotate_right 1
    focus
     refine Y3 ?_;clear hS;intro g5 w hS
     refine BL [0,3] AA (by simp) (.cons Ar AA ?_ (.cons Ar AA ?_ (.nil)))
     rotate_left 1
     focus
      refine Y3 ?_;clear hS;intro g6 w hS
      refine At 0 ?_
      refine Y1 ?_;clear hS;intro g8 w hS
      refine At 4 ?_
      refine Y0 ?_;clear hS;intro w hS
      refine At 5 ?_
      refine Y0 ?_;clear hS;intro w hS
      refine AE AA ?_ _
      exact ⟨rfl,g5,g6,g8,g9,rfl,St.close () (by dsimp only [List.cons_append,List.nil_append];rw [Ay];exact hS.sub AV)⟩
     rotate_right 1
     focus
      refine Y1 ?_;clear hS;intro g8 w hS
      refine At 3 ?_
      refine Y3 ?_;clear hS;intro g6 w hS
      refine At 4 ?_
      refine Y0 ?_;clear hS;intro w hS
      refine At 5 ?_
      refine Y0 ?_;clear hS;intro w hS
      refine AE AA ?_ _
      exact ⟨rfl,g5,g6,g8,g9,rfl,St.close () (by dsimp only [List.cons_append,List.nil_append];rw [Ay];exact hS.sub AV)⟩
    rotate_right 1
    focus
     refine Y1 ?_;clear hS;intro g8 w hS
     refine BL [2,3] AA (by simp) (.cons Ar AA ?_ (.cons Ar AA ?_ (.nil)))
     rotate_left 1
     focus
      refine Y3 ?_;clear hS;intro g6 w hS
      refine At 2 ?_
      refine Y3 ?_;clear hS;intro g5 w hS
      refine At 4 ?_
      refine Y0 ?_;clear hS;intro w hS
      refine At 5 ?_
      refine Y0 ?_;clear hS;intro w hS
      refine AE AA ?_ _
      exact ⟨rfl,g5,g6,g8,g9,rfl,St.close () (by dsimp only [List.cons_append,List.nil_append];rw [Ay];exact hS.sub AV)⟩
     rotate_right 1
     focus
      refine Y3 ?_;clear hS;intro g5 w hS
      refine At 3 ?_
      refine Y3 ?_;clear hS;intro g6 w hS
      refine At 4 ?_
      refine Y0 ?_;clear hS;intro w hS
      refine At 5 ?_
      refine Y0 ?_;clear hS;intro w hS
      refine AE AA ?_ _
      exact ⟨rfl,g5,g6,g8,g9,rfl,St.close () (by dsimp only [List.cons_append,List.nil_append];rw [Ay];exact hS.sub AV)⟩
   rotate_right 1
   focus
    refine Y1 ?_;clear hS;intro g8 w hS
    refine BL [1,2,3] AA (by simp) (.cons Ar AA ?_ (.cons Ar AA ?_ (.cons Ar AA ?_ (.nil))))
    rotate_left 2
    focus
     refine Y3 ?_;clear hS;intro g6 w hS
     refine BL [1,2] AA (by simp) (.cons Ar AA ?_ (.cons Ar AA ?_ (.nil)))
     rotate_left 1
     focus
      refine Y3 ?_;clear hS;intro g5 w hS
      refine BL [1,4] AA (by simp) (.cons Ar AA ?_ (.cons Ar AA ?_ (.nil)))
      rotate_left 1
      focus
       refine Y0 ?_;clear hS;intro w hS
       refine At 1 ?_
       refine Y1 ?_;clear hS;intro g9 w hS
       refine At 5 ?_
       refine Y0 ?_;clear hS;intro w hS
       refine AE AA ?_ _
       exact ⟨rfl,g5,g6,g8,g9,rfl,St.close () (by dsimp only [List.cons_append,List.nil_append];rw [Ay];exact hS.sub AV)⟩
      rotate_right 1
      focus
       refine Y1 ?_;clear hS;intro g9 w hS
       refine At 4 ?_
       refine Y0 ?_;clear hS;intro w hS
       refine At 5 ?_
       refine Y0 ?_;clear hS;intro w hS
       refine AE AA ?_ _
       exact ⟨rfl,g5,g6,g8,g9,rfl,St.close () (by dsimp only [List.cons_append,List.nil_append];rw [Ay];exact hS.sub AV)⟩
     rotate_right 1
     focus
      refine Y1 ?_;clear hS;intro g9 w hS
      refine At 2 ?_
      refine Y3 ?_;clear hS;intro g5 w hS
      refine At 4 ?_
      refine Y0 ?_;clear hS;intro w hS
      refine At 5 ?_
      refine Y0 ?_;clear hS;intro w hS
      refine AE AA ?_ _
      exact ⟨rfl,g5,g6,g8,g9,rfl,St.close () (by dsimp only [List.cons_append,List.nil_append];rw [Ay];exact hS.sub AV)⟩
    rotate_right 1
    focus
     refine Y3 ?_;clear hS;intro g5 w hS
     refine BL [1,3] AA (by simp) (.cons Ar AA ?_ (.cons Ar AA ?_ (.nil)))
     rotate_left 1
     focus
      refine Y3 ?_;clear hS;intro g6 w hS
      refine BL [1,4] AA (by simp) (.cons Ar AA ?_ (.cons Ar AA ?_ (.nil)))
      rotate_left 1
      focus
       refine Y0 ?_;clear hS;intro w hS
       refine At 1 ?_
       refine Y1 ?_;clear hS;intro g9 w hS
       refine At 5 ?_
       refine Y0 ?_;clear hS;intro w hS
       refine AE AA ?_ _
       exact ⟨rfl,g5,g6,g8,g9,rfl,St.close () (by dsimp only [List.cons_append,List.nil_append];rw [Ay];exact hS.sub AV)⟩
      rotate_right 1
      focus
       refine Y1 ?_;clear hS;intro g9 w hS
       refine At 4 ?_
       refine Y0 ?_;clear hS;intro w hS
       refine At 5 ?_
       refine Y0 ?_;clear hS;intro w hS
       refine AE AA ?_ _
       exact ⟨rfl,g5,g6,g8,g9,rfl,St.close () (by dsimp only [List.cons_append,List.nil_append];rw [Ay];exact hS.sub AV)⟩
     rotate_right 1
     focus
      refine Y1 ?_;clear hS;intro g9 w hS
      refine At 3 ?_
      refine Y3 ?_;clear hS;intro g6 w hS
      refine At 4 ?_
      refine Y0 ?_;clear hS;intro w hS
      refine At 5 ?_
      refine Y0 ?_;clear hS;intro w hS
      refine AE AA ?_ _
      exact ⟨rfl,g5,g6,g8,g9,rfl,St.close () (by dsimp only [List.cons_append,List.nil_append];rw [Ay];exact hS.sub AV)⟩
    rotate_right 1
    focus
     refine Y1 ?_;clear hS;intro g9 w hS
     refine BL [2,3] AA (by simp) (.cons Ar AA ?_ (.cons Ar AA ?_ (.nil)))
     rotate_left 1
     focus
      refine Y3 ?_;clear hS;intro g6 w hS
      refine At 2 ?_
      refine Y3 ?_;clear hS;intro g5 w hS
      refine At 4 ?_
      refine Y0 ?_;clear hS;intro w hS
      refine At 5 ?_
      refine Y0 ?_;clear hS;intro w hS
      refine AE AA ?_ _
      exact ⟨rfl,g5,g6,g8,g9,rfl,St.close () (by dsimp only [List.cons_append,List.nil_append];rw [Ay];exact hS.sub AV)⟩
     rotate_right 1
     focus
      refine Y3 ?_;clear hS;intro g5 w hS
      refine At 3 ?_
      refine Y3 ?_;clear hS;intro g6 w hS
      refine At 4 ?_
      refine Y0 ?_;clear hS;intro w hS
      refine At 5 ?_
      refine Y0 ?_;clear hS;intro w hS
      refine AE AA ?_ _
      exact ⟨rfl,g5,g6,g8,g9,rfl,St.close () (by dsimp only [List.cons_append,List.nil_append];rw [Ay];exact hS.sub AV)⟩
 clear hS
 intro g5 g6 g8 g9 w hS
 by_cases hE0:E=0
 ·subst hE0
  repeat' (first
   | refine fW 11 ?_|(refine AP 12 ?_);refine AG (f:=100) Tryz.call100 AA ?_;refine ⟨_,(Sp w0 w _ _ g5 g6 g8 g9 ad n c l 0 HE.out hn hv hS AU.head),?_⟩;clear hS;rintro e w ⟨rfl,s',hs',hS⟩;obtain rfl:=hs' rfl;clear hs';refine AX ?_;go_step|refine X0 ?_|refine X3 ?_|refine AH ?_;go_step|fail)
  all_goals (try exact AQ)
  obtain ⟨_,hS⟩:=(hS.pull AU.head).open
  dsimp only [List.cons_append,List.nil_append] at hS
  refine AR [] (fun w=>St w0 w [blk g5 [.slice (some ⟨g8,0,none⟩) 256 256],blk g6 [.slice (some ⟨g9,0,none⟩) 256 256]]) AA ?_
  replace hS:=hS.drew
  focus
   refine iJ 0 [2,3,4] ?_
   refine iJ 1 [3,4] ?_
   refine Ab 2 ?_
   refine Ab 3 ?_
   refine Ab 4 ?_
   refine AE AA ?_ _
  all_goals
   repeat' (first|(refine AH ?_;go_step)|fail)
   refine AM (xs:=[_,_,_]) rfl (.cons (AB.tmp rfl) (.cons (AB.tmp rfl) (.cons (AB.tmp rfl) (.nil)))) (by simp) rfl ?_
   exact ⟨fun _=>⟨g8,g9,rfl,hS.sub AV⟩,fun h=>absurd HE.out h⟩
 repeat' (first
  | refine fW 11 ?_|(refine AP 12 ?_);refine AG (f:=100) Tryz.call100 AA ?_;refine ⟨_,(Sp w0 w _ _ g5 g6 g8 g9 ad n c l E HE.out hn hv hS AU.head),?_⟩;clear hS;rintro e w ⟨rfl,s',hs',hS⟩;clear hs';refine AX ?_;go_step|refine X0 ?_|refine X3 ?_|refine AH ?_;go_step|fail)
 all_goals (try exact AQ)
 refine AM (xs:=[_,_,_]) rfl (.cons (AB.tmp rfl) (.cons (AB.tmp rfl) (.cons (AB.tmp rfl) (.nil)))) (by simp) rfl ?_
 exact ⟨fun h=>absurd (HE.out.symm.trans h) hE0,fun _=>⟨by rw [HE.out];rfl,hS.1⟩⟩
theorem Xy{C1 S1 C2 S2 l:List Int}{n:Nat}(hl:l.length=n*64)(h:Ct C1 S1 C2 S2 l n=0):
 ∃cc:List Nat,(∀x∈cc,x<256)∧Dj C1 S1 C2 S2 l n=Dv (GD cc)∧(Dj C1 S1 C2 S2 l n).length≤300000:=by
 have ht:EE C1 S1 C2 S2=0:=by
  unfold Ct at h
  by_cases h1:EE C1 S1 C2 S2=0
  ·exact h1
  rw [if_neg h1] at h;exact absurd h h1
 have hb:Be l n=0:=by
  unfold Ct at h
  rw [if_pos ht] at h
  by_cases h1:Be l n=0
  ·exact h1
  rw [if_neg h1] at h;exact absurd h h1
 have ht1:A4 C1 S1=0:=by
  unfold EE at ht
  by_cases h1:A4 C1 S1=0
  ·exact h1
  rw [if_neg h1] at ht;exact absurd ht h1
 have ht2:A4 C2 S2=0:=by unfold EE at ht;rw [if_pos ht1] at ht;exact ht
 have hlen:=KA ht1 ht2 hl (IT hb)
 have e:Dj C1 S1 C2 S2 l n=Dv (GD (bytesOf (Bv C1 S1 C2 S2 l n))):=by unfold Dj;rw [if_pos h]
 refine ⟨_,EU _,e,?_⟩
 rw [e,Og]
 have h1:=List.count_le_length (a:=(255:Int)) (l:=GD (bytesOf (Bv C1 S1 C2 S2 l n)))
 have h2:(GD (bytesOf (Bv C1 S1 C2 S2 l n))).length=((Bv C1 S1 C2 S2 l n).length+7)/8:=by unfold GD;rw [List.length_map,GE]
 omega
theorem Xx{C1 S1 C2 S2 l:List Int}{n:Nat}(h:Ct C1 S1 C2 S2 l n≠0):Dj C1 S1 C2 S2 l n=[]:=by unfold Dj;rw [if_neg h]
theorem QY(n every:Nat):∀f at_,∀x∈D5 n every f at_,x.1≤x.2∧x.2≤n
 | 0,_,x,hx=>by simp [D5] at hx
 | f+1,at_,x,hx=>by
   unfold D5 at hx
   by_cases h0:at_<n
   ·rw [if_pos h0] at hx
    rcases List.mem_cons.1 hx with rfl|hx
    ·dsimp only;omega
    exact QY n every f _ x hx
   rw [if_neg h0] at hx;cases hx
theorem To(n every:Nat):∀x∈BN n every,x.1≤x.2∧x.2≤n:=by
 intro x hx
 unfold BN at hx
 by_cases h:every=0∨n=0
 ·rw [if_pos h] at hx;simp at hx;subst hx;dsimp only;omega
 rw [if_neg h] at hx;exact QY n every n 0 x hx
theorem NQ(n every:Nat)(h:0<every):∀f at_,(D5 n every f at_).length≤n-at_
 | 0,_=>by simp [D5]
 | f+1,at_=>by
   unfold D5
   by_cases h0:at_<n
   ·rw [if_pos h0,List.length_cons]
    have:=NQ n every h f (at_+every)
    omega
   rw [if_neg h0];simp
theorem Qa(n every:Nat):(BN n every).length≤n+1:=by
 unfold BN
 by_cases h:every=0∨n=0
 ·rw [if_pos h];simp
 rw [if_neg h]
 have:=NQ n every (by omega) n 0
 omega
def BA(l:List Int)(f t:Nat):List Int:=(l.drop (f*64)).take ((t-f)*64)
def Gi(C1 S1 C2 S2 l:List Int):List (Nat×Nat)→Nat→Int×List Int
 | [],_=>(0,[])
 | x::L,k=>if Ct C1 S1 C2 S2 (BA l x.1 x.2) (x.2-x.1)≠0 then (Ct C1 S1 C2 S2 (BA l x.1 x.2) (x.2-x.1),[]) else
   ((Gi C1 S1 C2 S2 l L (k+1)).1,(if k=0 then [] else [255,((208+(k-1)%8:Nat):Int)])++(Dj C1 S1 C2 S2 (BA l x.1 x.2) (x.2-x.1)++(Gi C1 S1 C2 S2 l L (k+1)).2))
def F4(C1 S1 C2 S2 l:List Int)(n:Nat)(every:Int):Int×List Int:=
 if 0≤every∧every≤100 then if EE C1 S1 C2 S2=0 then if Be l n=0 then
  if (Gi C1 S1 C2 S2 l (BN n every.toNat) 0).1=0 then Gi C1 S1 C2 S2 l (BN n every.toNat) 0 else ((Gi C1 S1 C2 S2 l (BN n every.toNat) 0).1,[])
 else (Be l n,[]) else (EE C1 S1 C2 S2,[]) else (1,[])
structure K0(p:Prop):Prop where
 out:p
theorem GT(w0:World)(C1 C2 S1 S2:List Int)(a1 a2:Option Addr)(n1 n2 k1 k2:Nat)(hC1:Ac C1 16)(hC2:Ac C2 16)(hs1:Sl w0 1 (.slice a1 n1 k1) n1 (S1.map (Value.int .i64)))(hs2:Sl w0 1 (.slice a2 n2 k2) n2 (S2.map (Value.int .i64)))(hn1:n1≤9223372036854775807)(hn2:n2≤9223372036854775807)(ad:Option Addr)(n c:Nat)(l:List Int)(hn:n≤9223372036854775807)(hv:Sl w0 64 (.slice ad n c) n (l.map (Value.int .i64)))(every:Int):
 Calls Tryz.prog 42 #[.agg (AF [.ints C1, .val (.slice a1 n1 k1), .ints C2, .val (.slice a2 n2 k2)]).toArray, .slice ad n c, .int .i64 every] w0 (RA w0 (F4 C1 S1 C2 S2 l n every).1 (F4 C1 S1 C2 S2 l n every).2):=by
 have hl:l.length=n*64:=by have:=hv.1;simpa using this
 have hnc:n≤c:=by
  obtain ⟨_,a',c',e,h1,_⟩:=hv
  cases e;exact h1
 have HLl:=AD hl
 have hS:=St.start w0
 have hL1:=AD (Dw C1 (.slice a1 n1 k1) hC1)
 have hL2:=AD (Dw C2 (.slice a2 n2 k2) hC2)
 obtain ⟨E1,hE1⟩:∃x,A4 C1 S1=x:=⟨_,rfl⟩
 obtain ⟨E2,hE2⟩:∃x,A4 C2 S2=x:=⟨_,rfl⟩
 have HE1:=AD hE1
 have HE2:=AD hE2
 have HT:=AD (show EE C1 S1 C2 S2=if E1=0 then E2 else E1 by unfold EE;rw [hE1,hE2])
 clear hE1 hE2 hl
 by_cases hev:0≤every∧every≤100
 case neg=>
  have HP:=AD (show F4 C1 S1 C2 S2 l n every=(1,[]) by unfold F4;rw [if_neg hev])
  have hbad:every<0∨100<every:=by omega
  clear hev
  rcases hbad with h|h
  all_goals
   go_enter Tryz.func42,Tryz.ntmps42
   repeat' (first
    | go_skip|((first|(with_reducible refine J4 ?_)|(with_reducible refine RI ?_));(first|go_big_want|go_step);go_step)|((with_reducible refine Ak _ (.pick _ _ _) ?_);first|(refine BD rfl AA ?_;go_step)|(refine A6 rfl AA ?_;go_step))|((refine AP 20 ?_);(refine CY _ (V.lss rfl rfl) AA (fun hB=>?_) (fun hB=>?_)<;>(try exact AQ)<;>go_step))|((with_reducible refine Ak _ (.binOp .gtr _ _ _ _) ?_);(refine Ap AA (V.gtr rfl rfl) ?_;go_step))|((refine AP 3 ?_);(refine Ad ?_;apply I9 (o:=⟨some 3,_,_,_,_,_⟩) hS 34 _ rfl _ rfl;clear hS;intro g3 w hS;refine AC ?_;go_step))|(refine AH ?_;go_step)|fail)
   all_goals (try exact AQ)
   all_goals
    refine AM (xs:=[_,_]) rfl (.cons (AB.tmp rfl) (.cons (AB.tmp rfl) (.nil))) (by simp) rfl ?_
    exact Ey 1 (by rw [HP.out]) (by rw [HP.out]) hS.1
 obtain ⟨Ev,rfl⟩:∃N:Nat,every=(N:Int):=⟨every.toNat,by omega⟩
 have HP:=AD (show F4 C1 S1 C2 S2 l n Ev=if EE C1 S1 C2 S2=0 then if Be l n=0 then if (Gi C1 S1 C2 S2 l (BN n Ev) 0).1=0 then Gi C1 S1 C2 S2 l (BN n Ev) 0 else ((Gi C1 S1 C2 S2 l (BN n Ev) 0).1,[]) else (Be l n,[]) else (EE C1 S1 C2 S2,[]) by unfold F4;rw [if_pos hev,Int.toNat_natCast])
 go_enter Tryz.func42,Tryz.ntmps42
 repeat' (first
  | refine X0 ?_|refine IL ?_|refine Es 20 ?_ ?_<;>intro hB<;>(try exact AQ)<;>go_step|refine G6 ?_|refine PE 3 ?_;clear hS;intro g3 w hS|refine AH ?_;go_step|fail)
 all_goals (try exact AQ)
 repeat' (first
  | (refine AP 29 ?_);refine Ad ?_;refine AT (o:=⟨some 29,_,_,_,_,_⟩) hS 115 2 _ rfl 32 17 152 M9 _ _ (AW.agg rfl hL1.out (AW.agg rfl hL2.out AW.nil)) rfl (by decide) (by decide) ?_;clear hS;intro g29 w hS;replace hS:=I1 hS;refine AC ?_;go_step|refine X1 ?_|refine Zp ?_|refine Zq ?_|refine ek ?_|refine KZ ?_|refine AH ?_;go_step|fail)
 clear hL1 hL2
 go_loopg [31] 2 (fun gk kv w=>∃k:Nat,gk+k=2∧kv= .int .i64 k∧(1≤k→E1=0)∧(2≤k→E2=0)∧St w0 w [prt g3 [.ints C1, .val (.slice a1 n1 k1), .ints C2, .val (.slice a2 n2 k2)],prt g29 [.ints C1, .val (.slice a1 n1 k1), .ints C2, .val (.slice a2 n2 k2)]])
 case atStart=>exact ⟨0,rfl,rfl,fun h=>absurd h (by omega),fun h=>absurd h (by omega),hS.sub AV⟩
 case round=>
  clear hS
  obtain ⟨k,hk,rfl,HA,HB,hS⟩:=hrel
  by_cases hlt:k<2
  ·obtain rfl|rfl:k=0∨k=1:=by omega
   ·clear HA HB
    repeat' (first
     | (refine Al 73 ?_);refine Am AA Tryz.call73 (Ca _ C1 S1 a1 n1 k1 hC1 (hs1.ext hS.1) hn1) ?_;rintro e w ⟨rfl,hE2⟩;rw [HE1.out];replace hS:=hS.ext hE2;clear hE2;refine AX ?_;go_step|refine X0 ?_|refine X2 ?_|refine WP 33 ?_|refine X3 ?_|refine X7 ?_|refine KZ ?_|refine RC 9 ?_;clear hS;intro g9 w hS|refine RE ?_;clear hS;intro w hS|refine AH ?_;go_step|fail)
    ·have h9:F4 C1 S1 C2 S2 l n Ev=(E1,[]):=by rw [HP.out,HT.out,if_neg (show ¬E1=0 by omega),if_neg (by omega)]
     refine AM (xs:=[_,_]) rfl (.cons (AB.tmp rfl) (.cons (AB.tmp rfl) (.nil))) (by simp) rfl ?_
     exact Ey E1 (by rw [h9]) (by rw [h9]) hS.1
    go_roundg (gk-1)
    case measure=>omega
    case rel=>exact ⟨1,by omega,rfl,fun _=>by omega,fun h=>absurd h (by omega),hS.sub AV⟩
   have h1:=HA (by omega)
   subst h1
   clear HA HB
   repeat' (first
    | (refine Al 73 ?_);refine Am AA Tryz.call73 (Ca _ C2 S2 a2 n2 k2 hC2 (hs2.ext hS.1) hn2) ?_;rintro e w ⟨rfl,hE2⟩;rw [HE2.out];replace hS:=hS.ext hE2;clear hE2;refine AX ?_;go_step|refine X0 ?_|refine X2 ?_|refine WP 33 ?_|refine X3 ?_|refine X7 ?_|refine KZ ?_|refine RC 9 ?_;clear hS;intro g9 w hS|refine RE ?_;clear hS;intro w hS|refine AH ?_;go_step|fail)
   ·have h9:F4 C1 S1 C2 S2 l n Ev=(E2,[]):=by rw [HP.out,HT.out,if_pos rfl,if_neg (by omega)]
    refine AM (xs:=[_,_]) rfl (.cons (AB.tmp rfl) (.cons (AB.tmp rfl) (.nil))) (by simp) rfl ?_
    exact Ey E2 (by rw [h9]) (by rw [h9]) hS.1
   go_roundg (gk-1)
   case measure=>omega
   case rel=>exact ⟨2,by omega,rfl,fun _=>rfl,fun _=>by omega,hS.sub AV⟩
  obtain rfl:k=2:=by omega
  have h1:=HA (by omega)
  have h2:=HB (by omega)
  subst h1;subst h2
  clear HA HB
  have HP2:=AD (show F4 C1 S1 C2 S2 l n Ev=if Be l n=0 then if (Gi C1 S1 C2 S2 l (BN n Ev) 0).1=0 then Gi C1 S1 C2 S2 l (BN n Ev) 0 else ((Gi C1 S1 C2 S2 l (BN n Ev) 0).1,[]) else (Be l n,[]) by rw [HP.out,HT.out,if_pos rfl,if_pos rfl])
  clear HP
  by_cases hbk:Be l n=0
  case neg=>
   obtain ⟨E,hE⟩:∃E,Be l n=E:=⟨_,rfl⟩
   have h0:E≠0:=by rw [←hE];exact hbk
   have HE:=AD hE
   have HP3:=AD (show F4 C1 S1 C2 S2 l n Ev=(E,[]) by rw [HP2.out,if_neg hbk,hE])
   clear hbk hE
   repeat' (first
    | refine X1 ?_|refine X2 ?_|refine AH ?_;go_step|fail)
   repeat' (first
    | (refine AP 43 ?_);refine AG (f:=71) Tryz.call71 AA ?_;refine ⟨_,(FE _ ad n c l hn (hv.ext hS.1)),?_⟩;rintro e w ⟨_,hq⟩;rw [HE.out] at hq;obtain ⟨rfl,hE2⟩:=hq h0;clear hq;replace hS:=hS.ext hE2;clear hE2;refine AX ?_;go_step|refine X0 ?_|refine X4 ?_|refine X3 ?_|refine AH ?_;go_step|fail)
   all_goals (try exact AQ)
   refine AM (xs:=[_,_]) rfl (.cons (AB.tmp rfl) (.cons (AB.tmp rfl) (.nil))) (by simp) rfl ?_
   exact Ey E (by rw [HP3.out]) (by rw [HP3.out]) hS.1
  have HBK:=AD hbk
  have hn4:=IT hbk
  obtain ⟨M,hM⟩:∃M,(BN n Ev).length=M:=⟨_,rfl⟩
  have hM4:M≤401:=by rw [←hM];have:=Qa n Ev;omega
  have HM:=AD hM
  obtain ⟨D,hD⟩:∃D,Gi C1 S1 C2 S2 l (BN n Ev) 0=D:=⟨_,rfl⟩
  have HP3:=AD (show F4 C1 S1 C2 S2 l n Ev=if D.1=0 then D else (D.1,[]) by rw [HP2.out,if_pos hbk,hD])
  have HD:=AD hD
  clear hbk hD hM HP2
  repeat' (first
   | refine X1 ?_|refine X2 ?_|refine AH ?_;go_step|fail)
  repeat' (first
   | (refine AP 43 ?_);refine AG (f:=71) Tryz.call71 AA ?_;refine ⟨_,(FE _ ad n c l hn (hv.ext hS.1)),?_⟩;rintro e w ⟨hq,_⟩;obtain ⟨g1,g2,rfl,hS2⟩:=hq HBK.out;clear hq;replace hS:=hS.ext hS2.1;clear hS2;refine AX ?_;go_step|refine X0 ?_|refine X4 ?_|refine X3 ?_|refine AH ?_;go_step|fail)
  all_goals (try exact AQ)
  repeat' (first
   | (refine AP 53 ?_);refine AG (f:=50) Tryz.call50 AA ?_;refine ⟨_,(EM _ n Ev (by omega) (by omega)),?_⟩;rintro e w ⟨a3,c3,m3,hm3,rfl,hS2⟩;obtain rfl:M=m3:=(by rw [←hm3];exact HM.out.symm);clear hm3;replace hS:=hS.call1 hS2;clear hS2;refine AX ?_;go_step|refine X1 ?_|refine Vw ?_|refine UD ?_|refine AH ?_;go_step|fail)
  replace hS:=hS.nilk 5 1 .u8
  clear hk
  go_loopg [14,55] M (fun gk ov kv w=>∃(k m:Nat) (acc:List Int) (ao:Option Addr) (co:Nat),gk+k=M∧kv= .int .i64 k∧ov= .slice ao m co∧m≤300002*k∧Hid (acc.length=m)∧K0 (D=((Gi C1 S1 C2 S2 l ((BN n Ev).drop k) k).1,acc++(Gi C1 S1 C2 S2 l ((BN n Ev).drop k) k).2))∧St w0 w [own 5 1 ao m co (acc.map (Value.int .u8)),prt g3 [.ints C1, .val (.slice a1 n1 k1), .ints C2, .val (.slice a2 n2 k2)],own 94 2 a3 M c3 ((O5 (BN n Ev)).map (Value.int .i64))])
  case atStart=>exact ⟨0,0,[],none,0,by omega,rfl,rfl,by omega,AD rfl,⟨by rw [←HD.out];rfl⟩,hS.sub AV⟩
  case round=>
   clear hS
   obtain ⟨k,m,acc,ao,co,hk,rfl,rfl,hm4,HQ,HV,hS⟩:=hrel
   by_cases hlt:k<M
   ·obtain ⟨⟨f,t⟩,hx⟩:∃x,(BN n Ev)[k]? =some x:=⟨_,List.getElem?_eq_getElem (by rw [HM.out];exact hlt)⟩
    have hft:=To n Ev _ (List.mem_of_getElem? hx)
    dsimp only at hft
    have hseg:=Ix (BN n Ev) k _ hx
    dsimp only at hseg
    have hd1:(BN n Ev).drop k=(f,t)::(BN n Ev).drop (k+1):=by
     rw [List.drop_eq_getElem_cons (by rw [HM.out];exact hlt)]
     rw [List.getElem?_eq_getElem (by rw [HM.out];exact hlt)] at hx
     rw [Option.some.inj hx]
    obtain ⟨E,hE⟩:∃E,Ct C1 S1 C2 S2 (BA l f t) (t-f)=E:=⟨_,rfl⟩
    obtain ⟨B,hB⟩:∃B,Dj C1 S1 C2 S2 (BA l f t) (t-f)=B:=⟨_,rfl⟩
    have hsl:(BA l f t).length=(t-f)*64:=by
     unfold BA
     rw [List.length_take,List.length_drop,HLl.out]
     have h1:(t-f)*64≤n*64-f*64:=by rw [←Nat.sub_mul];exact Nat.mul_le_mul_right 64 (by omega)
     omega
    have hBl:B.length≤300000:=by
     by_cases h:Ct C1 S1 C2 S2 (BA l f t) (t-f)=0
     ·obtain ⟨_,_,_,h3⟩:=Xy hsl h;rw [←hB];exact h3
     rw [←hB,Xx h];simp
    have hcc:=hv.cutAt f t hft.1 hft.2
    rw [show ((l.map (Value.int .i64)).drop (f*64)).take ((t-f)*64)=(BA l f t).map (Value.int .i64) by unfold BA;simp] at hcc
    have hstep:K0 (Gi C1 S1 C2 S2 l ((BN n Ev).drop k) k=if E≠0 then (E,[]) else ((Gi C1 S1 C2 S2 l ((BN n Ev).drop (k+1)) (k+1)).1,(if k=0 then [] else [255,((208+(k-1)%8:Nat):Int)])++(B++(Gi C1 S1 C2 S2 l ((BN n Ev).drop (k+1)) (k+1)).2))):=⟨by rw [hd1,Gi];simp only [hE,hB]⟩
    have HE:=AD hE
    have HB:=AD hB
    obtain ⟨mB,hmB⟩:∃x,B.length=x:=⟨_,rfl⟩
    rw [hmB] at hBl
    have HMB:=AD hmB
    obtain ⟨g5,rfl⟩:=Bq (a:=a3) hS AK (by omega)
    clear hx hd1 hE hB hsl hmB
    by_cases hk0:k=0
    ·obtain ⟨acc1,hA1⟩:∃a,acc++(if k=0 then [] else [255,((208+(k-1)%8:Nat):Int)])=a:=⟨_,rfl⟩
     have hA2:acc=acc1:=by rw [←hA1,if_pos hk0,List.append_nil]
     have HA1:=AD hA1
     have HL1:=AD (show acc1.length=m by rw [←hA2];exact HQ.out)
     repeat' (first
      | refine X0 ?_|refine X2 ?_|refine UP 58 ?_|refine G6 ?_|refine UJ ?_|refine eb 16 ?_;clear hS;intro g16 w hS|refine eg ?_;clear hS;intro w hS|refine AH ?_;go_step|fail)
     all_goals (try exact AQ)
     replace hS:St w0 w [blk g16 [.int .i64 (f:Nat), .int .i64 (t:Nat)],own 5 1 ao m co (acc.map (Value.int .u8)),prt g3 [.ints C1, .val (.slice a1 n1 k1), .ints C2, .val (.slice a2 n2 k2)],own 94 2 (some ⟨g5,0,none⟩) M c3 ((O5 (BN n Ev)).map (Value.int .i64))]:=hS
     rw [hA2] at hS
     clear hA1 hA2
     refine AR [7] (fun w=>St w0 w [prt g3 [.ints C1, .val (.slice a1 n1 k1), .ints C2, .val (.slice a2 n2 k2)],blk g16 [.int .i64 (f:Nat), .int .i64 (t:Nat)]]) AA ?_
     replace hS:=hS.drew
     focus
      refine bu 0 [7,8,9,10,11,12] ?_
      refine Ab 1 ?_
      refine BX 2 BU (V.fieldAddr OD rfl BK) ?_;go_step
      refine Y5 3 [6,7,8,9,10,11,12] ?_
      refine BX 4 BU (V.fieldAddr OE rfl BK) ?_;go_step
      refine Y5 5 [6,7,8,9,10,11,12] ?_
      refine gd 6 ?_
      refine At 7 ?_
      refine AY (f:=75) rfl Tryz.call75 (Hf _ C1 C2 S1 S2 a1 a2 n1 n2 k1 k2 hC1 hC2 (hs1.ext hS.1) (hs2.ext hS.1) hn1 hn2 (cutAt ad c f 64) (t-f) (c-f) (BA l f t) (by omega) (hcc.ext hS.1)) ?_;rintro e w ⟨ap,cp,mp,hmp,rfl,hS2⟩;rw [HB.out] at hS2;rw [HB.out,HMB.out] at hmp;subst hmp;rw [HE.out];replace hS:=hS.call1 hS2;clear hS2;refine ⟨_,rfl,?_⟩
      refine ⟨fun h=>absurd (by decide) h,?_⟩
      refine AL ?_
      go_step
      refine Ab 8 ?_
      refine Y2 9 ?_
      refine Y2 10 ?_
      refine Ab 11 ?_
      refine Ab 12 ?_
      refine AE AA ?_ _
     all_goals
      repeat' (first|(refine AH ?_;go_step)|fail)
      by_cases hE0:E=0
      case neg=>
       have hD1:K0 (D=(E,acc)):=⟨by rw [HV.out,hstep.out,if_pos hE0];simp⟩
       have HS1:=AD (show F4 C1 S1 C2 S2 l n Ev=(E,[]) by rw [HP3.out,hD1.out,if_neg hE0])
       clear HV hstep hD1
       repeat' (first
        | refine X0 ?_|refine X3 ?_|refine AH ?_;go_step|fail)
       all_goals (try exact AQ)
       refine AM (xs:=[_,_]) rfl (.cons (AB.tmp rfl) (.cons (AB.tmp rfl) (.nil))) (by simp) rfl ?_
       exact Ey E (by rw [HS1.out]) (by rw [HS1.out]) hS.1
      have hD2:Gi C1 S1 C2 S2 l ((BN n Ev).drop k) k=((Gi C1 S1 C2 S2 l ((BN n Ev).drop (k+1)) (k+1)).1,(if k=0 then [] else [255,((208+(k-1)%8:Nat):Int)])++(B++(Gi C1 S1 C2 S2 l ((BN n Ev).drop (k+1)) (k+1)).2)):=by rw [hstep.out,if_neg (by simpa using hE0)]
      have HV2:K0 (D=((Gi C1 S1 C2 S2 l ((BN n Ev).drop (k+1)) (k+1)).1,(acc1++B)++(Gi C1 S1 C2 S2 l ((BN n Ev).drop (k+1)) (k+1)).2)):=⟨by rw [HV.out,hD2,←HA1.out,List.append_assoc,List.append_assoc]⟩
      clear HV hstep hD2
      subst hE0
      repeat' (first
       | refine X1 ?_|refine X3 ?_|refine AH ?_;go_step|fail)
      all_goals (try exact AQ)
      repeat' (first
       | refine X0 ?_|refine X7 ?_|refine Zm 85 ?_;clear hS;intro ad85 c85 w hS|refine AH ?_;go_step|fail)
      go_roundg (gk-1)
      case measure=>omega
      case rel=>exact ⟨k+1,_,acc1++B,_,_,by omega,by go_num,rfl,by omega,AD (by rw [List.length_append,HL1.out,HMB.out]),HV2,hS.sub AV⟩
    obtain ⟨r,hr⟩:∃r,208+(k-1)%8=r:=⟨_,rfl⟩
    have HR:=AD hr
    obtain ⟨acc1,hA1⟩:∃a,acc++(if k=0 then [] else [255,((208+(k-1)%8:Nat):Int)])=a:=⟨_,rfl⟩
    have hA2:acc++[255,(r:Int)]=acc1:=by rw [←hA1,if_neg hk0,hr]
    have HA1:=AD hA1
    have HL1:=AD (show acc1.length=m+2 by rw [←hA2,List.length_append,HQ.out];rfl)
    clear hA1
    repeat' (first
     | (refine AP 64 ?_);(refine Ag (.int _ (((k-1:Nat):Int))) (V.as (V.subI rfl rfl (by omega)) (by omega)) (by kernel_rfl) ?_;go_step)|(refine AP 65 ?_);refine AG (f:=74) Tryz.call74 AA ?_;refine ⟨_,(LZ _ (k-1) (by omega)),?_⟩;rintro e w ⟨rfl,hE2⟩;rw [HR.out];replace hS:=hS.ext hE2;clear hE2;refine AX ?_;go_step|refine X0 ?_|refine X2 ?_|refine UP 58 ?_|refine G6 ?_|refine WF ?_|refine UJ ?_|refine eb 16 ?_;clear hS;intro g16 w hS|refine eg ?_;clear hS;intro w hS|refine ec 67 ?_;clear hS;intro g67 w hS|refine Zm 68 ?_;clear hS;intro ad68 c68 w hS|refine AH ?_;go_step|fail)
    all_goals (try exact AQ)
    replace hS:St w0 w [own 5 1 ad68 (m+2) c68 ((acc++[255,(r:Int)]).map (Value.int .u8)),blk g16 [.int .i64 (f:Nat), .int .i64 (t:Nat)],prt g3 [.ints C1, .val (.slice a1 n1 k1), .ints C2, .val (.slice a2 n2 k2)],own 94 2 (some ⟨g5,0,none⟩) M c3 ((O5 (BN n Ev)).map (Value.int .i64))]:=by
     have h9:St w0 w (_::_::blk g16 [.int .i64 (f:Nat), .int .i64 (t:Nat)]::_):=hS
     exact h9.sub AV
    rw [hA2] at hS
    clear hA2
    refine AR [7] (fun w=>St w0 w [prt g3 [.ints C1, .val (.slice a1 n1 k1), .ints C2, .val (.slice a2 n2 k2)],blk g16 [.int .i64 (f:Nat), .int .i64 (t:Nat)]]) AA ?_
    replace hS:=hS.drew
    focus
     refine bu 0 [7,8,9,10,11,12] ?_
     refine Ab 1 ?_
     refine BX 2 BU (V.fieldAddr OD rfl BK) ?_;go_step
     refine Y5 3 [6,7,8,9,10,11,12] ?_
     refine BX 4 BU (V.fieldAddr OE rfl BK) ?_;go_step
     refine Y5 5 [6,7,8,9,10,11,12] ?_
     refine gd 6 ?_
     refine At 7 ?_
     refine AY (f:=75) rfl Tryz.call75 (Hf _ C1 C2 S1 S2 a1 a2 n1 n2 k1 k2 hC1 hC2 (hs1.ext hS.1) (hs2.ext hS.1) hn1 hn2 (cutAt ad c f 64) (t-f) (c-f) (BA l f t) (by omega) (hcc.ext hS.1)) ?_;rintro e w ⟨ap,cp,mp,hmp,rfl,hS2⟩;rw [HB.out] at hS2;rw [HB.out,HMB.out] at hmp;subst hmp;rw [HE.out];replace hS:=hS.call1 hS2;clear hS2;refine ⟨_,rfl,?_⟩
     refine ⟨fun h=>absurd (by decide) h,?_⟩
     refine AL ?_
     go_step
     refine Ab 8 ?_
     refine Y2 9 ?_
     refine Y2 10 ?_
     refine Ab 11 ?_
     refine Ab 12 ?_
     refine AE AA ?_ _
    all_goals
     repeat' (first|(refine AH ?_;go_step)|fail)
     by_cases hE0:E=0
     case neg=>
      have hD1:K0 (D=(E,acc)):=⟨by rw [HV.out,hstep.out,if_pos hE0];simp⟩
      have HS1:=AD (show F4 C1 S1 C2 S2 l n Ev=(E,[]) by rw [HP3.out,hD1.out,if_neg hE0])
      clear HV hstep hD1
      repeat' (first
       | refine X0 ?_|refine X3 ?_|refine AH ?_;go_step|fail)
      all_goals (try exact AQ)
      refine AM (xs:=[_,_]) rfl (.cons (AB.tmp rfl) (.cons (AB.tmp rfl) (.nil))) (by simp) rfl ?_
      exact Ey E (by rw [HS1.out]) (by rw [HS1.out]) hS.1
     have hD2:Gi C1 S1 C2 S2 l ((BN n Ev).drop k) k=((Gi C1 S1 C2 S2 l ((BN n Ev).drop (k+1)) (k+1)).1,(if k=0 then [] else [255,((208+(k-1)%8:Nat):Int)])++(B++(Gi C1 S1 C2 S2 l ((BN n Ev).drop (k+1)) (k+1)).2)):=by rw [hstep.out,if_neg (by simpa using hE0)]
     have HV2:K0 (D=((Gi C1 S1 C2 S2 l ((BN n Ev).drop (k+1)) (k+1)).1,(acc1++B)++(Gi C1 S1 C2 S2 l ((BN n Ev).drop (k+1)) (k+1)).2)):=⟨by rw [HV.out,hD2,←HA1.out,List.append_assoc,List.append_assoc]⟩
     clear HV hstep hD2
     subst hE0
     repeat' (first
      | refine X1 ?_|refine X3 ?_|refine AH ?_;go_step|fail)
     all_goals (try exact AQ)
     repeat' (first
      | refine X0 ?_|refine X7 ?_|refine Zm 85 ?_;clear hS;intro ad85 c85 w hS|refine AH ?_;go_step|fail)
     go_roundg (gk-1)
     case measure=>omega
     case rel=>exact ⟨k+1,_,acc1++B,_,_,by omega,by go_num,rfl,by omega,AD (by rw [List.length_append,HL1.out,HMB.out]),HV2,hS.sub AV⟩
   obtain rfl:k=M:=by omega
   have hD0:K0 (D=(0,acc)):=⟨by rw [HV.out,List.drop_of_length_le (by rw [HM.out];omega),Gi,List.append_nil]⟩
   have HS1:=AD (show F4 C1 S1 C2 S2 l n Ev=(0,acc) by rw [HP3.out,hD0.out,if_pos rfl])
   clear HV
   repeat' (first
    | refine X0 ?_|refine X2 ?_|refine AH ?_;go_step|fail)
   all_goals (try exact AQ)
   repeat' (first
    | refine AH ?_;go_step|fail)
   refine AM (xs:=[_,_]) rfl (.cons (AB.tmp rfl) (.cons (AB.tmp rfl) (.nil))) (by simp) rfl ?_
   exact ⟨ao,co,m,by rw [HS1.out];exact HQ.out,by rw [HS1.out];rfl,by rw [HS1.out];exact hS.sub AV⟩
theorem LH(n:Int)(w:World):Calls Tryz.prog 16 #[.int .i64 n] w fun e w'=>e= .returned (.int .i64 (n%101))∧w=w':=by
 go_enter Tryz.func16,Tryz.ntmps16
 repeat' (first
  | (refine Al 28 ?_);refine Am AA Tryz.call28 (Xr n 101 _ (by omega) (by omega)) ?_;rintro e w' ⟨rfl,rfl⟩;refine AX ?_;go_step|refine X0 ?_|refine AH ?_;go_step|fail)
 go_ret
 exact ⟨rfl,rfl⟩
theorem YB{l:List Int}{q k:Nat}(h:k<q):Bp (l.take (q*64)) 64 k=Bp l 64 k:=by
 unfold Bp
 rw [List.drop_take,List.take_take,Nat.min_eq_left (by omega)]
theorem Sq{A X:List Int}{s:Nat}(h:s<256):AJ (Cu A) s+AJ (Cu X) s=AJ (Cu (A++X)) s:=by
 rw [EG _ h,EG _ h,EG _ h,List.count_append];push_cast;rfl
theorem Dy{W w w':World}{rs:List Aq}{r s:Aq}(h:St W w rs)(h':St w w' [r,s]):St W w' (r::s::rs):=h.call h'
end Go.Proofs.YtohacgmhmbijmaaGreatDoor
namespace Go.Proofs.YtohacgmhmbijmaaGreatDoor
attribute [local irreducible] Region.wanted
set_option linter.unusedVariables false
set_option maxRecDepth 100000
set_option maxHeartbeats 8000000
section
variable{α:Type}[Inhabited α]
def An(l:List α)(i:Nat):α:=l.getD i default
theorem Ny(l:List α)(i j:Nat)(z:α)(h:i<l.length):An (l.set i z) j=if i=j then z else An l j:=by
 unfold An
 simp only [List.getD_eq_getElem?_getD,List.getElem?_set]
 split
 ·simp
 rfl
theorem B7(l m:List α)(i:Nat)(h:i<l.length):An (l++m) i=An l i:=by simp [An,List.getElem?_append_left h]
theorem BC(l m:List α)(i:Nat)(h:l.length≤i):An (l++m) i=An m (i-l.length):=by simp [An,List.getElem?_append_right h]
theorem aA{l:List α}{i:Nat}(h:i<l.length):An l i∈l:=by simp [An,h]
theorem RU{l:List α}{x:α}(h:x∈l):∃i,i<l.length∧An l i=x:=by
 obtain ⟨i,hi,e⟩:=List.getElem_of_mem h
 exact ⟨i,hi,by simp [An,hi,e]⟩
theorem Ke{l m:List α}(h:l.length=m.length)(k:∀i,i<l.length→An l i=An m i):l=m:=by
 apply List.ext_getElem h
 intro i h1 h2
 have:=k i h1
 simpa [An,h1,h2] using this
theorem Cy(l:List α)(n i:Nat)(h:i<n):An (l.take n) i=An l i:=by simp [An,h]
theorem Cx(l:List α)(n i:Nat):An (l.drop n) i=An l (n+i):=by simp [An]
structure Rg(a b:Nat)(P P':List α):Prop where
 len:P'.length=P.length
 out:∀x,x<a∨b≤x→An P' x=An P x
 perm:((P'.drop a).take (b-a)).Perm ((P.drop a).take (b-a))
theorem Rg.refl(a b:Nat)(P:List α):Rg a b P P:=⟨rfl,fun _ _=>rfl,List.Perm.refl _⟩
theorem Rg.trans{a b:Nat}{P Q R:List α}(h:Rg a b P Q)(k:Rg a b Q R):Rg a b P R:=
 ⟨k.len.trans h.len,fun x hx=>(k.out x hx).trans (h.out x hx),k.perm.trans h.perm⟩
theorem Rg.from{a b:Nat}{P P':List α}(h:Rg a b P P')(hb:b≤P.length){x:Nat}(h1:a≤x)(h2:x<b):∃y,a≤y∧y<b∧An P' x=An P y:=by
 have hl:=h.len
 have e:An P' x=An ((P'.drop a).take (b-a)) (x-a):=by rw [Cy _ _ _ (by omega),Cx];congr 1;omega
 have hm:An P' x∈(P'.drop a).take (b-a):=by rw [e];exact aA (by simp;omega)
 obtain ⟨i,hi,e2⟩:=RU (h.perm.mem_iff.1 hm)
 simp at hi
 exact ⟨a+i,by omega,by omega,by rw [←e2,Cy _ _ _ (by omega),Cx]⟩
theorem Rg.wide{a b c d:Nat}{P P':List α}(h:Rg a b P P')(hca:c≤a)(hbd:b≤d)(hab:a≤b)(hd:b≤P.length):Rg c d P P':=by
 refine ⟨h.len,fun x hx=>h.out x (by omega),?_⟩
 have cut:∀Q:List α,(Q.drop c).take (d-c)=(Q.drop c).take (a-c)++((Q.drop a).take (b-a)++(Q.drop b).take (d-b)):=fun Q=>by
  have e1:d-c=(a-c)+((b-a)+(d-b)):=by omega
  rw [e1,List.take_add,List.take_add,List.drop_drop,List.drop_drop]
  congr 4<;>omega
 have hl:=h.len
 rw [cut,cut]
 have e1:(P'.drop c).take (a-c)=(P.drop c).take (a-c):=Ke (by simp [hl]) fun i hi=>by
  simp at hi;rw [Cy _ _ _ (by omega),Cy _ _ _ (by omega),Cx,Cx,h.out _ (by omega)]
 have e2:(P'.drop b).take (d-b)=(P.drop b).take (d-b):=Ke (by simp [hl]) fun i hi=>by
  simp at hi;rw [Cy _ _ _ (by omega),Cy _ _ _ (by omega),Cx,Cx,h.out _ (by omega)]
 rw [e1,e2]
 exact List.Perm.append_left _ (List.Perm.append_right _ h.perm)
theorem Rg.all{P P':List α}(h:Rg 0 P.length P P'):P'.Perm P:=by
 have:=h.perm
 simp only [List.drop_zero,Nat.sub_zero,List.take_length] at this
 rwa [←h.len,List.take_length] at this
def Q4(P:List α)(i j:Nat):List α:=(P.set i (An P j)).set j (An P i)
theorem Gr(P:List α)(i j:Nat):(Q4 P i j).length=P.length:=by simp [Q4]
theorem Gh(P:List α)(i j x:Nat)(hi:i<P.length)(hj:j<P.length):An (Q4 P i j) x=if j=x then An P i else if i=x then An P j else An P x:=by
 unfold Q4
 rw [Ny _ _ _ _ (by simpa using hj),Ny _ _ _ _ hi]
theorem QX(l:List α)(i:Nat)(z:α)(h:i<l.length):(An l i::l.set i z).Perm (z::l):=by
 induction l generalizing i with
 | nil=>simp at h
 | cons a l ih=>
   cases i with
   | zero=>simp only [An,List.getD_cons_zero,List.set_cons_zero];exact List.Perm.swap _ _ _
   | succ i=>
     have:=ih i (by simpa using h)
     simp only [List.set_cons_succ]
     have e:An (a::l) (i+1)=An l i:=by simp [An]
     rw [e]
     exact (List.Perm.swap _ _ _).trans ((this.cons a).trans (List.Perm.swap _ _ _))
theorem YP(P:List α)(i j:Nat)(hi:i<P.length)(hj:j<P.length):(Q4 P i j).Perm P:=by
 unfold Q4
 have h1:=QX (P.set i (An P j)) j (An P i) (by simpa using hj)
 have h2:=QX P i (An P j) hi
 rw [Ny _ _ _ _ hi] at h1
 have e:(if i=j then An P j else An P j)=An P j:=by split<;>rfl
 rw [e] at h1
 exact (h1.trans h2).cons_inv
theorem Oh(P:List α)(a b i j:Nat)(hi:a≤i)(hib:i<b)(hj:a≤j)(hjb:j<b)(hb:b≤P.length):Rg a b P (Q4 P i j):=by
 refine ⟨Gr P i j,fun x hx=>by rw [Gh _ _ _ _ (by omega) (by omega),if_neg (by omega),if_neg (by omega)],?_⟩
 have e:((Q4 P i j).drop a).take (b-a)=Q4 ((P.drop a).take (b-a)) (i-a) (j-a):=by
  refine Ke (by simp [Gr]) fun x hx=>?_
  simp [Gr] at hx
  rw [Cy _ _ _ (by omega),Cx,Gh _ _ _ _ (by omega) (by omega),Gh _ _ _ _ (by simp;omega) (by simp;omega),Cy _ _ (i-a) (by omega),Cy _ _ (j-a) (by omega),Cy _ _ x (by omega),Cx,Cx,Cx]
  rw [show a+(i-a)=i by omega,show a+(j-a)=j by omega]
  by_cases h1:j=a+x
  ·rw [if_pos h1,if_pos (show j-a=x by omega)]
  rw [if_neg h1,if_neg (show ¬j-a=x by omega)]
  by_cases h2:i=a+x
  ·rw [if_pos h2,if_pos (show i-a=x by omega)]
  rw [if_neg h2,if_neg (show ¬i-a=x by omega)]
 rw [e]
 exact YP _ _ _ (by simp;omega) (by simp;omega)
variable(key:α→Int)
def EC(lo hi:Nat)(P:List α):Prop:=∀i j,lo≤i→i≤j→j<hi→key (An P i)≤key (An P j)
variable{key}
theorem EC.same{lo hi:Nat}{P Q:List α}(h:EC key lo hi P)(e:∀x,lo≤x→x<hi→An Q x=An P x):EC key lo hi Q:=fun i j h1 h2 h3=>by
 rw [e i h1 (by omega),e j (by omega) h3];exact h i j h1 h2 h3
theorem EC.sub{lo hi lo' hi':Nat}{P:List α}(h:EC key lo hi P)(h1:lo≤lo')(h2:hi'≤hi):EC key lo' hi' P:=fun i j k1 k2 k3=>h i j (by omega) k2 (by omega)
theorem EC.pair{P:List α}(h:EC key 0 P.length P):P.Pairwise (fun a b=>key a≤key b):=by
 rw [List.pairwise_iff_getElem]
 intro i j hi hj hij
 have:=h i j (by omega) (by omega) hj
 simpa [An,hi,hj] using this
theorem Xt(A U V B:List α)(x:Nat):An (A++(V++(U++B))) x=if x<A.length then An (A++(U++(V++B))) x else if x<A.length+V.length then An (A++(U++(V++B))) (x+U.length) else if x<A.length+V.length+U.length then An (A++(U++(V++B))) (x-V.length) else An (A++(U++(V++B))) x:=by
 by_cases h1:x<A.length
 ·rw [if_pos h1,B7 _ _ _ h1,B7 _ _ _ h1]
 rw [if_neg h1,BC _ _ _ (by omega)]
 by_cases h2:x<A.length+V.length
 ·rw [if_pos h2,B7 _ _ _ (by omega),BC A _ _ (by omega),BC U _ _ (by omega),B7 V _ _ (by omega)];congr 1;omega
 rw [if_neg h2,BC _ _ _ (by omega)]
 by_cases h3:x<A.length+V.length+U.length
 ·rw [if_pos h3,B7 _ _ _ (by omega),BC A _ _ (by omega),B7 U _ _ (by omega)];congr 1;omega
 rw [if_neg h3,BC U _ _ (by omega),BC A _ _ (by omega),BC U _ _ (by omega),BC V _ _ (by omega)];congr 1;omega
def O2(a m b:Nat)(P P':List α):Prop:=∃A U V B,P=A++(U++(V++B))∧P'=A++(V++(U++B))∧A.length=a∧U.length=m-a∧V.length=b-m
theorem O2.rg{a m b:Nat}{P P':List α}(h:O2 a m b P P')(h1:a≤m)(h2:m≤b):Rg a b P P':=by
 obtain ⟨A,U,V,B,rfl,rfl,rfl,hu,hv⟩:=h
 refine ⟨by simp;omega,fun x hx=>?_,?_⟩
 ·rw [Xt]
  rcases hx with hx|hx
  ·rw [if_pos hx]
  rw [if_neg (by omega),if_neg (by omega),if_neg (by omega)]
 rw [List.drop_left' rfl,List.drop_left' rfl,←List.append_assoc,←List.append_assoc,List.take_left' (by simp;omega),List.take_left' (by simp;omega)]
 exact List.perm_append_comm
theorem O2.at{a m b:Nat}{P P':List α}(h:O2 a m b P P')(h1:a≤m)(h2:m≤b)(x:Nat):An P' x=if x<a then An P x else if x<a+(b-m) then An P (x+(m-a)) else if x<b then An P (x-(b-m)) else An P x:=by
 obtain ⟨A,U,V,B,rfl,rfl,rfl,hu,hv⟩:=h
 rw [Xt,hu,hv]
 rw [show A.length+(b-m)+(m-A.length)=b by omega]
theorem O2.triv{β:Type}{a m b:Nat}{P:List β}(h1:a≤m)(h2:m≤b)(hb:b≤P.length)(h:m=a∨m=b):O2 a m b P P:=by
 refine ⟨P.take a,(P.drop a).take (m-a),(P.drop m).take (b-m),P.drop b,?_,?_,by simp;omega,by simp;omega,by simp;omega⟩
 ·have e1:(P.drop m).take (b-m)++P.drop b=P.drop m:=by
   have:=List.take_append_drop (b-m) (P.drop m)
   rw [List.drop_drop,show m+(b-m)=b by omega] at this;exact this
  have e2:(P.drop a).take (m-a)++P.drop m=P.drop a:=by
   have:=List.take_append_drop (m-a) (P.drop a)
   rw [List.drop_drop,show a+(m-a)=m by omega] at this;exact this
  rw [e1,e2,List.take_append_drop]
 rcases h with rfl|rfl
 ·rw [Nat.sub_self,List.take_zero,List.nil_append]
  have e1:(P.drop m).take (b-m)++P.drop b=P.drop m:=by
   have:=List.take_append_drop (b-m) (P.drop m)
   rw [List.drop_drop,show m+(b-m)=b by omega] at this;exact this
  rw [e1,List.take_append_drop]
 rw [Nat.sub_self,List.take_zero,List.nil_append]
 have e2:(P.drop a).take (m-a)++P.drop m=P.drop a:=by
  have:=List.take_append_drop (m-a) (P.drop a)
  rw [List.drop_drop,show a+(m-a)=m by omega] at this;exact this
 rw [e2,List.take_append_drop]
theorem Gs{a m b mid st en:Nat}{P Q:List α}(h1:EC key a m P)(h2:EC key m b P)(ham:a<m)(hmb:m<b)(hmid:mid=(a+b)/2)(hen:en=mid+m-st)(hs1:a≤st)(hs2:st≤m)(hs3:st≤mid)(he1:m≤en)(he2:en≤b)
 (hlo:a<st→m≤en→en<b→key (An P (st-1))≤key (An P en)) (hhi:m<en→st<m→key (An P (en-1))≤key (An P st)) (hr:O2 st m en P Q):
 EC key a st Q∧EC key st mid Q∧EC key mid en Q∧EC key en b Q∧∀x y,a≤x→x<mid→mid≤y→y<b→key (An Q x)≤key (An Q y):=by
 have ha:=hr.at hs2 he1
 have em:st+(en-m)=mid:=by omega
 rw [em] at ha
 have hA:∀x,x<st→An Q x=An P x:=fun x h=>by rw [ha,if_pos h]
 have hB:∀x,st≤x→x<mid→An Q x=An P (x+(m-st)):=fun x h h'=>by rw [ha,if_neg (by omega),if_pos h']
 have hC:∀x,mid≤x→x<en→An Q x=An P (x-(en-m)):=fun x h h'=>by rw [ha,if_neg (by omega),if_neg (by omega),if_pos h']
 have hD:∀x,en≤x→An Q x=An P x:=fun x h=>by rw [ha,if_neg (by omega),if_neg (by omega),if_neg (by omega)]
 clear ha hr
 refine ⟨h1.sub (Nat.le_refl _) hs2 |>.same fun x _ hx=>hA x hx,?_,?_,h2.sub he1 (Nat.le_refl _) |>.same fun x hx _=>hD x hx,?_⟩
 ·intro i j k1 k2 k3
  rw [hB i k1 (by omega),hB j (by omega) k3]
  exact h2 _ _ (by omega) (by omega) (by omega)
 ·intro i j k1 k2 k3
  rw [hC i k1 (by omega),hC j (by omega) k3]
  exact h1 _ _ (by omega) (by omega) (by omega)
 intro x y k1 k2 k3 k4
 by_cases c1:x<st
 ·rw [hA x c1]
  by_cases c2:y<en
  ·rw [hC y k3 c2];exact h1 _ _ (by omega) (by omega) (by omega)
  rw [hD y (by omega)]
  have t1:=h1 x (st-1) k1 (by omega) (by omega)
  have t2:=hlo (by omega) he1 (by omega)
  have t3:=h2 en y he1 (by omega) k4
  omega
 rw [hB x (by omega) k2]
 by_cases c2:y<en
 ·rw [hC y k3 c2]
  have t1:=h2 (x+(m-st)) (en-1) (by omega) (by omega) (by omega)
  have t2:=hhi (by omega) (by omega)
  have t3:=h1 st (y-(en-m)) hs1 (by omega) (by omega)
  omega
 rw [hD y (by omega)];exact h2 _ _ (by omega) (by omega) (by omega)
theorem Bk{a mid b:Nat}{Q R S:List α}(h1:a≤mid)(h2:mid≤b)(hb:b≤Q.length)(hx:∀x y,a≤x→x<mid→mid≤y→y<b→key (An Q x)≤key (An Q y))(r1:Rg a mid Q R)(r2:Rg mid b R S)(s1:EC key a mid R)(s2:EC key mid b S):EC key a b S∧Rg a b Q S:=by
 refine ⟨fun i j k1 k2 k3=>?_,(r1.wide (Nat.le_refl _) h2 h1 (by omega)).trans (r2.wide h1 (Nat.le_refl _) h2 (by rw [r1.len];omega))⟩
 by_cases c1:j<mid
 ·rw [r2.out i (by omega),r2.out j (by omega)];exact s1 i j k1 k2 c1
 by_cases c2:i<mid
 ·obtain ⟨x,x1,x2,ex⟩:=r1.from (by omega) k1 c2
  obtain ⟨y,y1,y2,ey⟩:=r2.from (by rw [r1.len];omega) (show mid≤j by omega) k3
  rw [r2.out i (by omega),ex,ey,r1.out y (by omega)]
  exact hx x y x1 x2 y1 y2
 exact s2 i j (by omega) k2 k3
theorem aM{lo i p:Nat}{P Q:List α}(h1:EC key lo i P)(hp1:lo≤p)(hp2:p≤i)(e1:∀x,x<p→An Q x=An P x)(e2:An Q p=An P i)(e3:∀x,p<x→x≤i→An Q x=An P (x-1))
 (hlo:lo<p→key (An P (p-1))≤key (An P i)) (hhi:p<i→key (An P i)≤key (An P p)):EC key lo (i+1) Q:=by
 intro x y k1 k2 k3
 by_cases c1:x<p
 ·rw [e1 x c1]
  by_cases c2:y<p
  ·rw [e1 y c2];exact h1 x y k1 k2 (by omega)
  by_cases c3:y=p
  ·rw [c3,e2];have:=h1 x (p-1) k1 (by omega) (by omega);have:=hlo (by omega);omega
  rw [e3 y (by omega) (by omega)];exact h1 x (y-1) k1 (by omega) (by omega)
 by_cases c2:x=p
 ·rw [c2,e2]
  by_cases c3:y=p
  ·rw [c3,e2];exact Int.le_refl _
  rw [e3 y (by omega) (by omega)]
  have:=h1 p (y-1) (by omega) (by omega) (by omega);have:=hhi (by omega);omega
 rw [e3 x (by omega) (by omega),e3 y (by omega) (by omega)]
 exact h1 (x-1) (y-1) (by omega) (by omega) (by omega)
end
section
variable{α:Type}[Inhabited α]{key:α→Int}
structure Dn(i j:Nat)(P Q:List α):Prop where
 len:Q.length=P.length
 lo:∀x,x<j→An Q x=An P x
 eq:An Q j=An P i
 mid:∀x,j<x→x≤i→An Q x=An P (x-1)
 hi:∀x,i<x→An Q x=An P x
theorem Dn.refl(i:Nat)(P:List α):Dn i i P P:=⟨rfl,fun _ _=>rfl,rfl,fun x h1 h2=>by omega,fun _ _=>rfl⟩
theorem Dn.step{i j:Nat}{P Q:List α}(h:Dn i j P Q)(h1:0<j)(h2:j≤i)(h3:i<P.length):Dn i (j-1) P (Q4 Q j (j-1)):=by
 have hl:=h.len
 have e:=fun x=>Gh Q j (j-1) x (by omega) (by omega)
 refine ⟨by rw [Gr,hl],fun x hx=>?_,?_,fun x k1 k2=>?_,fun x hx=>?_⟩
 ·rw [e,if_neg (by omega),if_neg (by omega),h.lo x (by omega)]
 ·rw [e,if_pos rfl,h.eq]
 ·rw [e,if_neg (by omega)]
  by_cases c:j=x
  ·rw [if_pos c,h.lo _ (by omega),c]
  rw [if_neg c,h.mid x (by omega) k2]
 rw [e,if_neg (by omega),if_neg (by omega),h.hi x hx]
theorem Dn.asc{lo i p:Nat}{P Q:List α}(h:Dn i p P Q)(h1:EC key lo i P)(hp1:lo≤p)(hp2:p≤i)(hlo:lo<p→key (An P (p-1))≤key (An P i))(hhi:p<i→key (An P i)≤key (An P p)):EC key lo (i+1) Q:=
 aM h1 hp1 hp2 h.lo h.eq h.mid hlo hhi
structure ZI(a k:Nat)(P Q:List α):Prop where
 len:Q.length=P.length
 lo:∀x,x<a→An Q x=An P x
 mid:∀x,a≤x→x<k→An Q x=An P (x+1)
 eq:An Q k=An P a
 hi:∀x,k<x→An Q x=An P x
theorem ZI.refl(i:Nat)(P:List α):ZI i i P P:=⟨rfl,fun _ _=>rfl,fun x h1 h2=>by omega,rfl,fun _ _=>rfl⟩
theorem ZI.step{a k:Nat}{P Q:List α}(h:ZI a k P Q)(h1:a≤k)(h3:k+1<P.length):ZI a (k+1) P (Q4 Q k (k+1)):=by
 have hl:=h.len
 have e:=fun x=>Gh Q k (k+1) x (by omega) (by omega)
 refine ⟨by rw [Gr,hl],fun x hx=>?_,fun x k1 k2=>?_,?_,fun x hx=>?_⟩
 ·rw [e,if_neg (by omega),if_neg (by omega),h.lo x hx]
 ·rw [e,if_neg (by omega)]
  by_cases c:k=x
  ·rw [if_pos c,h.hi _ (by omega),c]
  rw [if_neg c,h.mid x k1 (by omega)]
 ·rw [e,if_pos rfl,h.eq]
 rw [e,if_neg (by omega),if_neg (by omega),h.hi x (by omega)]
theorem ZI.asc{a p b:Nat}{P Q:List α}(h:ZI a p P Q)(h1:EC key (a+1) b P)(hp1:a≤p)(hp2:p<b)(hlo:a<p→key (An P p)≤key (An P a))(hhi:p+1<b→key (An P a)≤key (An P (p+1))):EC key a b Q:=by
 intro x y k1 k2 k3
 by_cases c1:x<p
 ·rw [h.mid x k1 c1]
  by_cases c2:y<p
  ·rw [h.mid y (by omega) c2];exact h1 _ _ (by omega) (by omega) (by omega)
  by_cases c3:y=p
  ·rw [c3,h.eq];have:=h1 (x+1) p (by omega) (by omega) (by omega);have:=hlo (by omega);omega
  rw [h.hi y (by omega)];exact h1 _ _ (by omega) (by omega) (by omega)
 by_cases c2:x=p
 ·rw [c2,h.eq]
  by_cases c3:y=p
  ·rw [c3,h.eq];exact Int.le_refl _
  rw [h.hi y (by omega)]
  have:=hhi (by omega);have:=h1 (p+1) y (by omega) (by omega) (by omega);omega
 rw [h.hi x (by omega),h.hi y (by omega)];exact h1 _ _ (by omega) (by omega) (by omega)
structure SX(a b t:Nat)(P Q:List α):Prop where
 len:Q.length=P.length
 one:∀x,a≤x→x<a+t→An Q x=An P (x-a+b)
 two:∀x,b≤x→x<b+t→An Q x=An P (x-b+a)
 out:∀x,(x<a∨a+t≤x)→(x<b∨b+t≤x)→An Q x=An P x
theorem SX.refl(a b:Nat)(P:List α):SX a b 0 P P:=⟨rfl,fun x h1 h2=>by omega,fun x h1 h2=>by omega,fun _ _ _=>rfl⟩
theorem SX.step{a b t:Nat}{P Q:List α}(h:SX a b t P Q)(h1:a+t<b)(h2:b+t<P.length):SX a b (t+1) P (Q4 Q (a+t) (b+t)):=by
 have hl:=h.len
 have e:=fun x=>Gh Q (a+t) (b+t) x (by omega) (by omega)
 refine ⟨by rw [Gr,hl],fun x k1 k2=>?_,fun x k1 k2=>?_,fun x k1 k2=>?_⟩
 ·rw [e,if_neg (by omega)]
  by_cases c:a+t=x
  ·rw [if_pos c,h.out _ (by omega) (by omega)];congr 1;omega
  rw [if_neg c,h.one x k1 (by omega)]
 ·rw [e]
  by_cases c:b+t=x
  ·rw [if_pos c,h.out _ (by omega) (by omega)];congr 1;omega
  rw [if_neg c,if_neg (by omega),h.two x k1 (by omega)]
 rw [e,if_neg (by omega),if_neg (by omega),h.out x (by omega) (by omega)]
theorem SX.blocks{A U C V B Q:List α}{n:Nat}(hu:U.length=n)(hv:V.length=n)(h:SX A.length (A.length+n+C.length) n (A++(U++(C++(V++B)))) Q):Q=A++(V++(C++(U++B))):=by
 have hl:=h.len
 refine Ke (by rw [hl];simp;omega) fun x hx=>?_
 rw [hl] at hx
 simp at hx
 by_cases c1:x<A.length
 ·rw [h.out x (by omega) (by omega),B7 _ _ _ c1,B7 _ _ _ c1]
 rw [BC A (V++(C++(U++B))) _ (by omega)]
 by_cases c2:x<A.length+n
 ·rw [h.one x (by omega) c2,B7 V _ _ (by omega),BC A _ _ (by omega),BC U _ _ (by omega),BC C _ _ (by omega),B7 V _ _ (by omega)];congr 1;omega
 rw [BC V (C++(U++B)) _ (by omega)]
 by_cases c3:x<A.length+n+C.length
 ·rw [h.out x (by omega) (by omega),B7 C (U++B) _ (by omega),BC A _ _ (by omega),BC U _ _ (by omega),B7 C _ _ (by omega)];congr 1;omega
 rw [BC C (U++B) _ (by omega)]
 by_cases c4:x<A.length+n+C.length+n
 ·rw [h.two x (by omega) c4,B7 U B _ (by omega),BC A _ _ (by omega),B7 U _ _ (by omega)];congr 1;omega
 rw [h.out x (by omega) (by omega),BC U B _ (by omega),BC A _ _ (by omega),BC U _ _ (by omega),BC C _ _ (by omega),BC V _ _ (by omega)];congr 1;omega
theorem O2.left{A U V B Q:List α}{i j:Nat}(hu:U.length=i)(hv:V.length=j)(hij:j≤i)(h:SX A.length (A.length+i) j (A++(U++(V++B))) Q):
 ∃U1 U2,U=U1++U2∧U1.length=j∧U2.length=i-j∧Q=(A++V)++(U2++(U1++B))∧A++(V++(U++B))=(A++V)++(U1++(U2++B)):=by
 have e:U=U.take j++U.drop j:=(List.take_append_drop _ _).symm
 refine ⟨U.take j,U.drop j,e,by simp;omega,by simp;omega,?_,?_⟩
 ·rw [e,List.append_assoc] at h
  have:=SX.blocks (A:=A) (U:=U.take j) (C:=U.drop j) (V:=V) (B:=B) (n:=j) (Q:=Q) (by simp;omega) hv (by
   rw [show A.length+j+(U.drop j).length=A.length+i by simp;omega];exact h)
  rw [this,List.append_assoc]
 conv=>lhs;rw [e]
 simp only [List.append_assoc]
theorem O2.right{A U V B Q:List α}{i j:Nat}(hu:U.length=i)(hv:V.length=j)(hij:i≤j)(h:SX A.length (A.length+j) i (A++(U++(V++B))) Q):
 ∃V1 V2,V=V1++V2∧V1.length=j-i∧V2.length=i∧Q=A++(V2++(V1++(U++B)))∧A++(V++(U++B))=A++(V1++(V2++(U++B))):=by
 have e:V=V.take (j-i)++V.drop (j-i):=(List.take_append_drop _ _).symm
 refine ⟨V.take (j-i),V.drop (j-i),e,by simp;omega,by simp;omega,?_,?_⟩
 ·rw [e,List.append_assoc] at h
  have:=SX.blocks (A:=A) (U:=U) (C:=V.take (j-i)) (V:=V.drop (j-i)) (B:=B) (n:=i) (Q:=Q) hu (by simp;omega) (by
   rw [show A.length+i+(V.take (j-i)).length=A.length+j by simp;omega];exact h)
  exact this
 conv=>lhs;rw [e]
 simp only [List.append_assoc]
end
end Go.Proofs.YtohacgmhmbijmaaGreatDoor
namespace Go.Proofs.YtohacgmhmbijmaaGreatDoor
attribute [local irreducible] Region.wanted
open Go.RowKit
set_option linter.unusedVariables false
set_option maxRecDepth 100000
set_option maxHeartbeats 8000000
theorem EX{α:Type}(enc:α→List Value)(m:Nat)(he:∀x,(enc x).length=m)(l:List α):(l.flatMap enc).length=l.length*m:=by
 induction l with
 | nil=>simp
 | cons x l ih=>rw [List.flatMap_cons,List.length_append,ih,he,List.length_cons,Nat.add_mul,Nat.one_mul,Nat.add_comm]
theorem Fo(w:World)(g:Nat)(t:TypeId)(A B D:List Value):∀(vs B A:List Value)(w:World)(cur:Array Value),w.heap[g]? =some (.cells cur t)→cur.toList=A++(B++D)→B.length=vs.length→∃cur':Array Value,(w.setCells g A.length vs).heap[g]? =some (.cells cur' t)∧cur'.toList=A++(vs++D)∧ES [g] w (w.setCells g A.length vs)
 | [],[],A,w,cur,h,e,_=>⟨cur,h,e,⟨rfl,rfl,rfl,Nat.le_refl _,fun _ _ _=>rfl⟩⟩
 | [],_::_,A,w,cur,h,e,hl=>by simp at hl
 | _::_,[],A,w,cur,h,e,hl=>by simp at hl
 | v::vs,b::B,A,w,cur,h,e,hl=>by
   have h1:=heap_setCell_same w g A.length cur t v h
   have e1:(cur.setIfInBounds A.length v).toList=(A++[v])++(B++D):=by
    rw [Array.toList_setIfInBounds,e];simp
   obtain ⟨cur',h2,h3,h4⟩:=Fo w g t A B D vs B (A++[v]) _ _ h1 e1 (by simpa using hl)
   have e2:w.setCells g A.length (v::vs)=(w.setCell ⟨g,A.length,none⟩ v).setCells g (A++[v]).length vs:=by
    rw [World.setCells,List.length_append];rfl
   rw [e2]
   have h5:=ES.setCell w ⟨g,A.length,none⟩ v
   exact ⟨cur',h2,by rw [h3];simp,⟨h4.os.trans h5.os,h4.tape.trans h5.tape,h4.output.trans h5.output,Nat.le_trans h5.size h4.size,fun k hk hm=>(h4.block k (Nat.lt_of_lt_of_le hk h5.size) hm).trans (h5.block k hk hm)⟩⟩
section
variable{α:Type}[Inhabited α]
theorem N6(enc:α→List Value)(m:Nat)(he:∀x,(enc x).length=m):∀(l:List α)(j:Nat),j<l.length→((l.flatMap enc).drop (j*m)).take m=enc (An l j)
 | [],j,h=>by simp at h
 | x::l,0,h=>by rw [Nat.zero_mul,List.drop_zero,List.flatMap_cons,List.take_left' (he x)];simp [An]
 | x::l,j+1,h=>by
   rw [List.flatMap_cons,Nat.add_mul,Nat.one_mul,Nat.add_comm,←List.drop_drop,List.drop_left' (he x),N6 enc m he l j (by simpa using h)]
   simp [An]
theorem Pv(enc:α→List Value)(m:Nat)(he:∀x,(enc x).length=m)(z:α):∀(l:List α)(j:Nat),j<l.length→∃A B,l.flatMap enc=A++(enc (An l j)++B)∧(l.set j z).flatMap enc=A++(enc z++B)∧A.length=j*m
 | [],j,h=>by simp at h
 | x::l,0,h=>⟨[],l.flatMap enc,by simp [An],by simp,by simp⟩
 | x::l,j+1,h=>by
   obtain ⟨A,B,e1,e2,e3⟩:=Pv enc m he z l j (by simpa using h)
   refine ⟨enc x++A,B,?_,?_,?_⟩
   ·rw [List.flatMap_cons,e1,List.append_assoc];simp [An]
   ·rw [List.set_cons_succ,List.flatMap_cons,e2,List.append_assoc]
   rw [List.length_append,he,e3,Nat.add_mul,Nat.one_mul,Nat.add_comm]
end
section
variable{α:Type}{P:Program}{W w:World}{rs rs':List Aq}{Q:Exit→Act→World→Prop}{K:Act→World→Prop}{o:Oper}{a:Act}
theorem Eg{e:TypeId}{n c m:Nat}{ad:Option Addr}{enc:α→List Value}{l:List α}(hS:St W w rs)(hp:AU (own e m ad n c (l.flatMap enc)) rs rs')(he:∀x,(enc x).length=m)(hm:0<m):l.length=n:=by
 have:=(hS.own hp).1
 rw [EX enc m he] at this
 exact Nat.eq_of_mul_eq_mul_right hm this
theorem Qt(hS:St W w rs)(ty:TypeId)(x:Operand)(ho:o.op= .load ty x)(g q:Nat)(hx:a.eval x= .pointer (some ⟨g,q,none⟩))(m:Nat)(h1:E7 P ty m)(e:TypeId)(n c:Nat)(l:List α)(enc:α→List Value)(hp:AU (own e m (some ⟨g,0,none⟩) n c (l.flatMap enc)) rs rs')
 (inst:Inhabited α) (he:∀x,(enc x).length=m) (j:Nat) (hq:q=j*m) (hj:j<n) (h:K (a.put o.dst (.agg (enc (An l j)).toArray)) w):o.wp P a w K Q:=by
 subst hq
 have hl:=(hS.own hp).1
 rw [EX enc m he] at hl
 refine En ty x ho g _ hx m h1 (enc (An l j)) (he _) ?_ h
 have:=NI (off:=j*m) (m:=m) hS hp
 rcases Nat.eq_zero_or_pos m with h0|h0
 ·have e0:enc (An l j)=[]:=List.eq_nil_of_length_eq_zero (by rw [he,h0])
  rw [e0];intro i v hv;simp at hv
 have hln:l.length=n:=Nat.eq_of_mul_eq_mul_right h0 hl
 rwa [N6 enc m he l j (by omega)] at this
theorem Ni(hS:St W w rs)(ty:TypeId)(x:Operand)(ho:o.op= .load ty x)(g q:Nat)(hx:a.eval x= .pointer (some ⟨g,q,none⟩))(h1:MQ P ty)(e:TypeId)(m n c:Nat)(l:List α)(enc:α→List Value)(hp:AU (own e m (some ⟨g,0,none⟩) n c (l.flatMap enc)) rs rs')
 (inst:Inhabited α) (he:∀x,(enc x).length=m) (j f:Nat) (hq:q=j*m+f) (hj:j<n) (v:Value) (hv:(enc (An l j))[f]? =some v) (h:K (a.put o.dst v) w):o.wp P a w K Q:=by
 subst hq
 have hf:f<m:=by rw [←he (An l j)];exact (List.getElem?_eq_some_iff.1 hv).1
 have hl:=Eg hS hp he (by omega)
 refine Ah hS ty x ho g _ hx h1 e m n c _ hp v ?_ h
 have:=N6 enc m he l j (by omega)
 rw [←this,List.getElem?_take,if_pos hf,List.getElem?_drop] at hv
 exact hv
theorem SQ(hS:St W w rs)(ty:TypeId)(x:Operand)(ho:o.op= .load ty x)(g q:Nat)(hx:a.eval x= .pointer (some ⟨g,q,none⟩))(h1:MQ P ty)(e:TypeId)(m n c:Nat)(l:List α)(enc:α→List Value)(hp:AU (own e m (some ⟨g,0,none⟩) n c (l.flatMap enc)) rs rs')
 (inst:Inhabited α) (he:∀x,(enc x).length=m) (j:Nat) (hq:q=j*m) (hj:j<n) (v:Value) (hv:(enc (An l j))[0]? =some v) (h:K (a.put o.dst v) w):o.wp P a w K Q:=
 Ni hS ty x ho g q hx h1 e m n c l enc hp inst he j 0 hq hj v hv h
theorem Vr(hS:St W w rs)(ty:TypeId)(x y:Operand)(ho:o.op= .store ty x y)(g q:Nat)(hx:a.eval x= .pointer (some ⟨g,q,none⟩))(m:Nat)(h1:E7 P ty m)(e:TypeId)(n c:Nat)(l:List α)(enc:α→List Value)(hp:AU (own e m (some ⟨g,0,none⟩) n c (l.flatMap enc)) rs rs')
 (inst:Inhabited α) (he:∀x,(enc x).length=m) (hone:∀x,(enc x).all (·.oneCell')=true) (j:Nat) (hq:q=j*m) (hj:j<n) (z:α) (hy:a.eval y= .agg (enc z).toArray) (hd:o.dst=none) (h:∀w',St W w' (own e m (some ⟨g,0,none⟩) n c ((l.set j z).flatMap enc)::rs')→K a w'):o.wp P a w K Q:=by
 subst hq
 have hown:=hS.own hp
 have hlen:=hown.1
 rw [EX enc m he] at hlen
 rcases hown.2 with ⟨h2,_⟩|⟨g',cap,cur,h2,hb,hg,hn,hc,hsz,htake⟩
 ·cases h2
 cases h2
 have hln:m=0∨l.length=n:=by
  rcases Nat.eq_zero_or_pos m with h0|h0
  ·exact .inl h0
  exact .inr (Nat.eq_of_mul_eq_mul_right h0 hlen)
 have hjm:j*m+m≤n*m:=by have:=Nat.mul_le_mul_right m hj;rwa [Nat.succ_mul] at this
 have hcm:n*m≤c*m:=Nat.mul_le_mul_right m hn
 refine wp_store_mid ty x y ho g (j*m) (enc z).toArray hx hy ?_ (by rw [h1.2];simp [he]) (by simpa using hone z) ?_
 ·intro i hi
  rw [List.size_toArray,he] at hi
  refine ⟨?_,frozen_of_row w g _ cur e hg⟩
  have:=GL hS hp (k:=j*m+i) (v:=(l.flatMap enc)[j*m+i]'(by rw [EX enc m he];omega)) (by rw [List.getElem?_eq_getElem])
  rw [this];rfl
 rw [show a.put o.dst undef=a by rw [hd];rfl]
 refine h _ ?_
 refine St.change (rs1:=[own e m (some ⟨g,0,none⟩) n c ((l.set j z).flatMap enc)]) (hS.pull hp) fun f1 k1 _ _=>?_
 obtain ⟨rfl,_⟩:=k1
 rcases hln with h0|hln
 ·have e0:∀y,enc y=[]:=fun y=>List.eq_nil_of_length_eq_zero (by rw [he,h0])
  have e1:∀l:List α,l.flatMap enc=[]:=fun l=>List.eq_nil_of_length_eq_zero (by rw [EX enc m he,h0,Nat.mul_zero])
  rw [e0,e1]
  refine ⟨[g],⟨[g],[],rfl,⟨rfl,by simp [h0], .inr ⟨g,c,cur,rfl,hb,hg,hn,hc,hsz,by rw [h0];simp⟩⟩,rfl⟩,by simp,fun b hb=> .inl hb,⟨rfl,rfl,rfl,Nat.le_refl _,fun _ _ _=>rfl⟩⟩
 obtain ⟨A,B,e1,e2,e3⟩:=Pv enc m he z l j (by omega)
 have ecur:cur.toList=A++(enc (An l j)++(B++cur.toList.drop (n*m))):=by
  conv=>lhs;rw [←List.take_append_drop (n*m) cur.toList,htake,e1]
  simp
 obtain ⟨cur',k2,k3,k4⟩:=Fo w g e [] [] (B++cur.toList.drop (n*m)) (enc z) (enc (An l j)) A w cur hg ecur (by rw [he,he])
 rw [←e3]
 have hAB:(A++(enc z++B)).length=n*m:=by rw [←e2,EX enc m he,List.length_set,hln]
 refine ⟨[g],⟨[g],[],rfl,⟨rfl,by rw [EX enc m he,List.length_set,hln], .inr ⟨g,c,cur',rfl,hb,k2,hn,hc,?_,?_⟩⟩,rfl⟩,by simp,fun b hb=> .inl hb,k4⟩
 ·have a1:=congrArg List.length k3
  have a2:=congrArg List.length ecur
  simp only [List.length_append,Array.length_toList,he] at a1 a2
  omega
 have a3:cur'.toList=(A++(enc z++B))++cur.toList.drop (n*m):=by rw [k3];simp
 rw [a3,List.take_left' hAB,e2]
end
structure Dd where
 w:Int
 ad:Option Addr
 n:Nat
 c:Nat
instance:Inhabited Dd:=⟨⟨0,none,0,0⟩⟩
def Mm(p:Dd):List Value:=[.int .i64 p.w, .slice p.ad p.n p.c]
theorem C5:∀p,(Mm p).length=2:=fun _=>rfl
theorem OO:∀p,(Mm p).all (·.oneCell')=true:=fun _=>rfl
end Go.Proofs.YtohacgmhmbijmaaGreatDoor
