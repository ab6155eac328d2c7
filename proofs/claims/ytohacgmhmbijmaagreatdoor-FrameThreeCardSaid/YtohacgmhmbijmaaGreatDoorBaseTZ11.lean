/- What the laws FrameThree need, part 11. -/
import Derived.Test.YtohacgmhmbijmaaGreatDoorBaseTZ1
import Derived.Test.YtohacgmhmbijmaaGreatDoorBaseTZ2
import Derived.Test.YtohacgmhmbijmaaGreatDoorBaseTZ3
import Derived.Test.YtohacgmhmbijmaaGreatDoorBaseTZ5
import Derived.Test.YtohacgmhmbijmaaGreatDoorBaseTZ7
import Derived.Test.YtohacgmhmbijmaaGreatDoorBaseTZ8
import Derived.Test.YtohacgmhmbijmaaGreatDoorBaseTZ10
import Derived.Deep.MidRow
namespace Go.Proofs.YtohacgmhmbijmaaGreatDoor
attribute [local irreducible] Region.wanted
open Go.RowKit
set_option linter.unusedVariables false
set_option maxRecDepth 100000
set_option maxHeartbeats 8000000
theorem Oh(n every:Nat)(h:0<every):∀f at_,(Dg n every f at_).length≤n-at_
 | 0,_=>by simp [Dg]
 | f+1,at_=>by
   unfold Dg
   by_cases h0:at_<n
   ·rw [if_pos h0,List.length_cons]
    have:=Oh n every h f (at_+every)
    omega
   rw [if_neg h0];simp
theorem RM(n every:Nat):(Bc n every).length≤n+1:=by
 unfold Bc
 by_cases h:every=0∨n=0
 ·rw [if_pos h];simp
 rw [if_neg h]
 have:=Oh n every (by omega) n 0
 omega
theorem RJ(n every:Nat):∀f at_,∀x∈Dg n every f at_,x.1≤x.2∧x.2≤n
 | 0,_,x,hx=>by simp [Dg] at hx
 | f+1,at_,x,hx=>by
   unfold Dg at hx
   by_cases h0:at_<n
   ·rw [if_pos h0] at hx
    rcases List.mem_cons.1 hx with rfl|hx
    ·dsimp only;omega
    exact RJ n every f _ x hx
   rw [if_neg h0] at hx;cases hx
theorem Fo(n every:Nat):∀x∈Bc n every,x.1≤x.2∧x.2≤n:=by
 intro x hx
 unfold Bc at hx
 by_cases h:every=0∨n=0
 ·rw [if_pos h] at hx;simp at hx;subst hx;dsimp only;omega
 rw [if_neg h] at hx;exact RJ n every n 0 x hx
theorem Mt:∀(k:Nat)(b:List Int)(o:List (List Int))(m p:List Int)(ps:List (List Int))(ms:List Int),b.length≤k→Dk b o m p=some (ps,ms)→(∀x∈b,0≤x∧x<256)→(∀q∈o,∀x∈q,0≤x∧x<256)→(∀x∈p,0≤x∧x<256)→∀L:Nat,p.length+b.length≤L→(∀q∈o,q.length≤L)→∀q∈ps,(∀x∈q,0≤x∧x<256)∧q.length≤L
 | _,[],o,m,p,ps,ms,_,h,hb,ho,hp,L,hl,hol,q,hq=>by
   rw [Dk] at h
   have e:=congrArg Prod.fst (Option.some.inj h)
   dsimp only at e
   subst e
   rcases List.mem_append.1 hq with hq|hq
   ·exact ⟨ho q hq,hol q hq⟩
   rw [List.mem_singleton.1 hq];exact ⟨hp,by simpa using hl⟩
 | 0,x::b,o,m,p,ps,ms,hk,h,hb,ho,hp,L,hl,hol,q,hq=>by simp at hk
 | k+1,x::b,o,m,p,ps,ms,hk,h,hb,ho,hp,L,hl,hol,q,hq=>by
   have hx:=hb x (by simp)
   simp only [List.length_cons] at hk hl
   rw [Dk.eq_def] at h
   dsimp only at h
   by_cases h255:x=255
   ·rw [if_pos h255] at h
    match b,h,hb,hk,hl with
    | [],h,_,_,_=>cases h
    | y::b,h,hb,hk,hl=>
      dsimp only at h
      simp only [List.length_cons] at hk hl
      by_cases h1:y=255
      ·rw [if_pos h1] at h;cases h
      rw [if_neg h1] at h
      by_cases h0:y=0
      ·rw [if_pos h0] at h
       refine Mt k b o m _ ps ms (by omega) h (fun z hz=>hb z (by simp [hz])) ho (fun z hz=>?_) L (by simp;omega) hol q hq
       rcases List.mem_append.1 hz with hz|hz
       ·exact hp z hz
       simp at hz;rcases hz with rfl|rfl<;>omega
      rw [if_neg h0] at h
      refine Mt k b _ _ _ ps ms (by omega) h (fun z hz=>hb z (by simp [hz])) (fun r hr=>?_) (fun z hz=>by cases hz) L (by simp;omega) (fun r hr=>?_) q hq
      ·rcases List.mem_append.1 hr with hr|hr
       ·exact ho r hr
       rw [List.mem_singleton.1 hr];exact hp
      rcases List.mem_append.1 hr with hr|hr
      ·exact hol r hr
      rw [List.mem_singleton.1 hr];omega
   rw [if_neg h255] at h
   refine Mt k b o m _ ps ms (by omega) h (fun z hz=>hb z (by simp [hz])) ho (fun z hz=>?_) L (by simp;omega) hol q hq
   rcases List.mem_append.1 hz with hz|hz
   ·exact hp z hz
   rw [List.mem_singleton.1 hz];exact hx
theorem Oc{C1 S1 C2 S2 b:List Int}{z:Int}(h:(GI C1 S1 C2 S2 b z).1=0):∃n:Nat,z=(n:Int)∧n≤400∧(GI C1 S1 C2 S2 b z).2.length=n*64:=by
 obtain ⟨n,h1,h2,h3,_⟩:=P6 h
 exact ⟨n,h1,h2,h3⟩
noncomputable def LN(C1 S1 C2 S2:List Int):List (Nat×Nat)→List (List Int)→Int×List Int
 | [],_=>(0,[])
 | x::L,ps=>if (GI C1 S1 C2 S2 (ps.headD []) ((x.2-x.1:Nat):Int)).1≠0 then ((GI C1 S1 C2 S2 (ps.headD []) ((x.2-x.1:Nat):Int)).1,[]) else
   ((LN C1 S1 C2 S2 L ps.tail).1,(GI C1 S1 C2 S2 (ps.headD []) ((x.2-x.1:Nat):Int)).2++(LN C1 S1 C2 S2 L ps.tail).2)
noncomputable def O9(C1 S1 C2 S2 b:List Int)(n every:Int):Int×List Int:=if NQ C1 S1 C2 S2 b n every=0 then match Dk b [] [] [] with
 | none=>(4,[])
 | some y=>if (LN C1 S1 C2 S2 (Bc n.toNat every.toNat) y.1).1=0 then LN C1 S1 C2 S2 (Bc n.toNat every.toNat) y.1 else ((LN C1 S1 C2 S2 (Bc n.toNat every.toNat) y.1).1,[])
 else (NQ C1 S1 C2 S2 b n every,[])
theorem XP{W w:World}{pcs:List Pc}{rs rs':List Au}(h:St W w rs)(p:AT (star (pcs.map Pc.res)) rs rs'){x:Pc}(hx:x∈pcs):x.ad=none→x.c=0:=by
 obtain ⟨s,hs⟩:=h.starGet p (List.mem_map.2 ⟨x,hx,rfl⟩)
 exact Q7 hs (show AT (own 5 1 x.ad x.xs.length x.c (x.xs.map (Value.int .u8))) (Pc.res x::s) s from .head)
theorem VS{C1 S1 C2 S2 b:List Int}{n every:Int}(h:NQ C1 S1 C2 S2 b n every=0):IV n every:=by
 unfold NQ at h
 by_cases h1:OS C1 S1 C2 S2 b n every=0
 ·exact (OT h1).1
 rw [if_neg h1] at h;exact absurd h h1
theorem KQ(w0:World)(C1 C2 S1 S2:List Int)(a1 a2:Option Addr)(n1 n2 k1 k2:Nat)(hC1:Ap C1 16)(hC2:Ap C2 16)(hs1:Sl w0 1 (.slice a1 n1 k1) n1 (S1.map (Value.int .i64)))(hs2:Sl w0 1 (.slice a2 n2 k2) n2 (S2.map (Value.int .i64)))(hn1:n1≤9223372036854775807)(hn2:n2≤9223372036854775807)(ad:Option Addr)(nb c:Nat)(b:List Int)(n every:Int)
 (hb:nb≤1000000000) (hv:Sl w0 1 (.slice ad nb c) nb (b.map (Value.int .u8))) (hx:∀x∈b,0≤x∧x<256) (hml:∃m,w0.cell? ⟨0,0,none⟩=some (.int .i64 m)):
 Calls Tryz.prog 20 #[.agg (AI [.ints C1, .val (.slice a1 n1 k1), .ints C2, .val (.slice a2 n2 k2)]).toArray, .slice ad nb c, .int .i64 n, .int .i64 every] w0 (FS w0 (O9 C1 S1 C2 S2 b n every).1 (O9 C1 S1 C2 S2 b n every).2):=by
 have hS:=St.start w0
 have HX:=AD hx
 have HML:=AD hml
 have hbl:b.length=nb:=by have:=hv.1;simpa using this
 clear hx hml
 by_cases hW:NQ C1 S1 C2 S2 b n every=0
 case neg=>
  obtain ⟨E,hE⟩:∃E,NQ C1 S1 C2 S2 b n every=E:=⟨_,rfl⟩
  have h0:E≠0:=by rw [←hE];exact hW
  have HE:=AD hE
  have HW:=AD (show O9 C1 S1 C2 S2 b n every=(E,[]) by unfold O9;rw [if_neg hW,hE])
  clear hW hE
  go_enter Tryz.func20,Tryz.ntmps20
  repeat' (first
   | (refine AS 22 ?_);refine AN (f:=49) Tryz.call49 AA ?_;refine ⟨_,(L4 _ C1 C2 S1 S2 a1 a2 n1 n2 k1 k2 hC1 hC2 (hs1.ext hS.1) (hs2.ext hS.1) hn1 hn2 ad nb c b n every hb (hv.ext hS.1) HX.out),?_⟩;rintro e w ⟨hq,_⟩;rw [HE.out] at hq;obtain ⟨rfl,hE2⟩:=hq h0;clear hq;replace hS:=hS.ext hE2;clear hE2;refine Ae ?_;go_step|refine X0 ?_|refine X6 ?_|refine X3 ?_|refine PG 4 ?_;clear hS;intro g4 w hS|refine QU ?_|refine AG ?_;go_step|fail)
  all_goals (try exact AW)
  refine AM (xs:=[_,_]) rfl (.cons (AC.tmp rfl) (.cons (AC.tmp rfl) (.nil))) (by simp) rfl ?_
  exact EP E (by rw [HW.out]) (by rw [HW.out]) hS.1
 have hok:=VS hW
 unfold IV at hok
 obtain ⟨N,rfl⟩:∃N:Nat,n=(N:Int):=⟨n.toNat,by omega⟩
 obtain ⟨Ev,rfl⟩:∃N:Nat,every=(N:Int):=⟨every.toNat,by omega⟩
 have HW:=AD hW
 obtain ⟨M,hM⟩:∃M,(Bc N Ev).length=M:=⟨_,rfl⟩
 have hM4:M≤401:=by rw [←hM];have:=RM N Ev;omega
 have HM:=AD hM
 clear hW hM
 go_enter Tryz.func20,Tryz.ntmps20
 repeat' (first
  | (refine AS 22 ?_);refine AN (f:=49) Tryz.call49 AA ?_;refine ⟨_,(L4 _ C1 C2 S1 S2 a1 a2 n1 n2 k1 k2 hC1 hC2 (hs1.ext hS.1) (hs2.ext hS.1) hn1 hn2 ad nb c b (N:Int) (Ev:Int) hb (hv.ext hS.1) HX.out),?_⟩;rintro e w ⟨_,hq⟩;rw [Int.toNat_natCast,Int.toNat_natCast,HM.out] at hq;obtain ⟨pcs,ms,ao,co,hsp,hpl,rfl,hS2⟩:=hq HW.out;clear hq;have HSP:=AD hsp;have HPL:=AD hpl;clear hsp hpl;replace hS:=hS.call hS2;dsimp only [List.cons_append,List.nil_append] at hS;clear hS2;refine Ae ?_;go_step|refine X0 ?_|refine X6 ?_|refine X3 ?_|refine PG 4 ?_;clear hS;intro g4 w hS|refine QU ?_|refine AG ?_;go_step|fail)
 all_goals (try exact AW)
 have hin:=Mt b.length b [] [] [] _ ms (Nat.le_refl _) HSP.out HX.out (fun q hq=>(by cases hq)) (fun x hx=>(by cases hx)) nb (by simp;omega) (fun q hq=>(by cases hq))
 have HIN:=AD hin
 obtain ⟨D,hD⟩:∃D,LN C1 S1 C2 S2 (Bc N Ev) (pcs.map (·.xs))=D:=⟨_,rfl⟩
 have HSC:=AD (show O9 C1 S1 C2 S2 b N Ev=if D.1=0 then D else (D.1,[]) by
  unfold O9;rw [if_pos HW.out,HSP.out];dsimp only;rw [Int.toNat_natCast,Int.toNat_natCast,hD])
 have HD:=AD hD
 clear hin hD hbl
 repeat' (first
  | (refine AS 30 ?_);refine AN (f:=50) Tryz.call50 AA ?_;refine ⟨_,(El _ N Ev (by omega) (by omega)),?_⟩;rintro e w ⟨a3,c3,m3,hm3,rfl,hS2⟩;obtain rfl:M=m3:=(by rw [←hm3];exact HM.out.symm);clear hm3;replace hS:=hS.call1 hS2;clear hS2;refine Ae ?_;go_step|refine X1 ?_|refine bk ?_|refine AG ?_;go_step|fail)
 replace hS:=hS.nilk 26 64 .i64
 go_loopg [12,32] M (fun gk ov kv w=>∃(k q:Nat) (acc:List Int) (ao2:Option Addr) (co2:Nat),gk+k=M∧kv= .int .i64 k∧ov= .slice ao2 q co2∧q≤400*k∧Hid (acc.length=q*64)∧DL (D=((LN C1 S1 C2 S2 ((Bc N Ev).drop k) ((pcs.map (·.xs)).drop k)).1,acc++(LN C1 S1 C2 S2 ((Bc N Ev).drop k) ((pcs.map (·.xs)).drop k)).2))∧St w0 w [own 26 64 ao2 q co2 (acc.map (Value.int .i64)),prt g4 [.ints C1, .val (.slice a1 n1 k1), .ints C2, .val (.slice a2 n2 k2)],own 35 1 ao M co (pcs.map Pc.val),star (pcs.map Pc.res),own 94 2 a3 M c3 ((P7 (Bc N Ev)).map (Value.int .i64))])
 case atStart=>exact ⟨0,0,[],none,0,by omega,rfl,rfl,by omega,AD rfl,⟨by rw [←HD.out];rfl⟩,hS.sub AV⟩
 case round=>
  clear hS
  obtain ⟨k,q,acc,ao2,co2,hk,rfl,rfl,hq4,HQ,HV,hS⟩:=hrel
  by_cases hlt:k<M
  ·obtain ⟨⟨f,t⟩,hx⟩:∃x,(Bc N Ev)[k]? =some x:=⟨_,List.getElem?_eq_getElem (by rw [HM.out];exact hlt)⟩
   obtain ⟨⟨pa,pcc,px⟩,hpx⟩:∃x,pcs[k]? =some x:=⟨_,List.getElem?_eq_getElem (by rw [HPL.out];exact hlt)⟩
   have hft:=Fo N Ev _ (List.mem_of_getElem? hx)
   dsimp only at hft
   have hmem:(⟨pa,pcc,px⟩:Pc)∈pcs:=List.mem_of_getElem? hpx
   have hpin:=HIN.out px (List.mem_map.2 ⟨_,hmem,rfl⟩)
   have hpl:px.length≤nb:=hpin.2
   have HPR:=AD hpin.1
   have hseg:=JY (Bc N Ev) k _ hx
   dsimp only at hseg
   have hpv:(pcs.map Pc.val)[k]? =some (.slice pa px.length pcc):=by rw [List.getElem?_map,hpx];rfl
   have hd1:(Bc N Ev).drop k=(f,t)::(Bc N Ev).drop (k+1):=by
    rw [List.drop_eq_getElem_cons (by rw [HM.out];exact hlt)]
    rw [List.getElem?_eq_getElem (by rw [HM.out];exact hlt)] at hx
    rw [Option.some.inj hx]
   have hd2:(pcs.map (·.xs)).drop k=px::(pcs.map (·.xs)).drop (k+1):=by
    rw [List.drop_eq_getElem_cons (by rw [List.length_map,HPL.out];exact hlt)]
    rw [List.getElem?_eq_getElem (by rw [HPL.out];exact hlt)] at hpx
    rw [List.getElem_map,Option.some.inj hpx]
   obtain ⟨⟨E,B⟩,hR⟩:∃R,GI C1 S1 C2 S2 px ((t-f:Nat):Int)=R:=⟨_,rfl⟩
   have hstep:DL (LN C1 S1 C2 S2 ((Bc N Ev).drop k) ((pcs.map (·.xs)).drop k)=if E≠0 then (E,[]) else ((LN C1 S1 C2 S2 ((Bc N Ev).drop (k+1)) ((pcs.map (·.xs)).drop (k+1))).1,B++(LN C1 S1 C2 S2 ((Bc N Ev).drop (k+1)) ((pcs.map (·.xs)).drop (k+1))).2)):=⟨by rw [hd1,hd2,LN];simp only [List.headD_cons,List.tail_cons,hR]⟩
   have HBL:DL (E=0→B.length=(t-f)*64):=⟨fun h=>by
    obtain ⟨n',e1,e2,e3⟩:=Oc (C1:=C1) (S1:=S1) (C2:=C2) (S2:=S2) (b:=px) (z:=((t-f:Nat):Int)) (by rw [hR];exact h)
    rw [hR] at e3
    have:n'=t-f:=by omega
    rw [←this];exact e3⟩
   have HR:=AD hR
   have HMEM:=AD hmem
   obtain ⟨g3,rfl⟩:=CE (a:=a3) hS AJ (by omega)
   obtain ⟨g1,rfl⟩:=CE (a:=ao) hS AJ (by omega)
   clear hx hpx hpin hd1 hd2 hR hmem
   repeat' (first
    | refine X0 ?_|refine X2 ?_|refine WU 35 ?_|refine WL ?_|refine cS 14 ?_;clear hS;intro g14 w hS|refine WC ?_;clear hS;intro w hS|refine AG ?_;go_step|fail)
   all_goals (try exact AW)
   replace hS:St w0 w [blk g14 [.int .i64 (f:Nat), .int .i64 (t:Nat)],own 26 64 ao2 q co2 (acc.map (Value.int .i64)),prt g4 [.ints C1, .val (.slice a1 n1 k1), .ints C2, .val (.slice a2 n2 k2)],own 35 1 (some ⟨g1,0,none⟩) M co (pcs.map Pc.val),star (pcs.map Pc.res),own 94 2 (some ⟨g3,0,none⟩) M c3 ((P7 (Bc N Ev)).map (Value.int .i64))]:=hS
   refine AQ [10] (fun w=>St w0 w [prt g4 [.ints C1, .val (.slice a1 n1 k1), .ints C2, .val (.slice a2 n2 k2)],own 35 1 (some ⟨g1,0,none⟩) M co (pcs.map Pc.val),blk g14 [.int .i64 (f:Nat), .int .i64 (t:Nat)]]) AA ?_
   replace hS:=hS.drew
   focus
    refine br 0 [10,11,12,13,14,15] ?_
    refine Ab 1 ?_
    refine Ab 2 ?_
    refine Bf 3 BU (V.indexSl Tryz.underlying88 cD rfl rfl BI (by omega) (Nat.mul_one _) BO) ?_;go_step
    apply Cb 4 Am AA AA AA Ch [10,11,12,13,14,15] AA (hS.sub AV)
    case hfr=>intro w hS;((refine Ag ?_;apply Ai hS 35 _ rfl _ _ rfl (AH rfl) _ _ _ _ _;(case hp=>exact AJ);(case hv=>with_reducible assumption);refine AB ?_;go_step));refine wpList_nil ?_;exact ⟨rfl,rfl⟩
    case hd=>rfl
    refine Bf 5 BU (V.fieldAddr MY rfl BO) ?_;go_step
    refine Y7 6 [9,10,11,12,13,14,15] ?_
    refine Bf 7 BU (V.fieldAddr MX rfl BO) ?_;go_step
    refine Y7 8 [9,10,11,12,13,14,15] ?_
    (refine Bo 9 (.int _ (((t-f:Nat):Int))) Am AA AA AA Ch (V.as (V.subI rfl rfl (by omega)) (by omega)) AA ?_)
    go_step
    refine Aa 10 ?_
    refine Af (f:=51) rfl Tryz.call51 (LO _ C1 C2 S1 S2 a1 a2 n1 n2 k1 k2 hC1 hC2 (hs1.ext hS.1) (hs2.ext hS.1) hn1 hn2 pa px.length pcc px _ (by omega) (XO hS AJ HMEM.out) (XP hS AJ HMEM.out) HPR.out (HML.out.imp fun m h=>hS.1.cell h) _ HR.out) ?_;rintro e w ⟨al,cl,ml,hml,rfl,hS2⟩;have HMM:=AD hml;dsimp only at hS2⊢;replace hS:=hS.call1 hS2;clear hS2 hml;refine ⟨_,rfl,?_⟩
    refine ⟨fun h=>absurd (by decide) h,?_⟩
    refine AF ?_
    go_step
    refine Ab 11 ?_
    refine Y4 12 ?_
    refine Y4 13 ?_
    refine Ab 14 ?_
    refine Ab 15 ?_
    refine AE AA ?_ _
   all_goals
    repeat' (first|(refine AG ?_;go_step)|fail)
    by_cases hE0:E=0
    case neg=>
     have hD1:DL (D=(E,acc)):=⟨by rw [HV.out,hstep.out,if_pos hE0];simp⟩
     have HS1:=AD (show O9 C1 S1 C2 S2 b N Ev=(E,[]) by rw [HSC.out,hD1.out,if_neg hE0])
     clear HV hstep HBL hD1
     repeat' (first
      | refine X0 ?_|refine X3 ?_|refine AG ?_;go_step|fail)
     all_goals (try exact AW)
     refine AM (xs:=[_,_]) rfl (.cons (AC.tmp rfl) (.cons (AC.tmp rfl) (.nil))) (by simp) rfl ?_
     exact EP E (by rw [HS1.out]) (by rw [HS1.out]) hS.1
    have hbl:=HBL.out hE0
    have HV2:DL (D=((LN C1 S1 C2 S2 ((Bc N Ev).drop (k+1)) ((pcs.map (·.xs)).drop (k+1))).1,(acc++B)++(LN C1 S1 C2 S2 ((Bc N Ev).drop (k+1)) ((pcs.map (·.xs)).drop (k+1))).2)):=⟨by rw [HV.out,hstep.out,if_neg (by simpa using hE0),List.append_assoc]⟩
    have hml2:ml=t-f:=by have h9:B.length=ml*64:=HMM.out;omega
    clear HV hstep HBL
    subst hE0
    repeat' (first
     | refine X1 ?_|refine X3 ?_|refine AG ?_;go_step|fail)
    all_goals (try exact AW)
    repeat' (first
     | refine X0 ?_|refine X7 ?_|refine WD 56 ?_;clear hS;intro ad56 c56 w hS|refine AG ?_;go_step|fail)
    go_roundg (gk-1)
    case measure=>omega
    case rel=>exact ⟨k+1,q+ml,acc++B,_,_,by omega,by go_num,rfl,by omega,AD (by rw [List.length_append,HQ.out,HMM.out];omega),HV2,hS.sub AV⟩
  obtain rfl:k=M:=by omega
  have hD0:DL (D=(0,acc)):=⟨by rw [HV.out,List.drop_of_length_le (by rw [HM.out];omega),LN,List.append_nil]⟩
  have HS1:=AD (show O9 C1 S1 C2 S2 b N Ev=(0,acc) by rw [HSC.out,hD0.out,if_pos rfl])
  clear HV
  repeat' (first
   | refine X0 ?_|refine X2 ?_|refine AG ?_;go_step|fail)
  all_goals (try exact AW)
  repeat' (first
   | refine AG ?_;go_step|fail)
  refine AM (xs:=[_,_]) rfl (.cons (AC.tmp rfl) (.cons (AC.tmp rfl) (.nil))) (by simp) rfl ?_
  exact ⟨ao2,co2,q,by rw [HS1.out];exact HQ.out,by rw [HS1.out];rfl,by rw [HS1.out];exact hS.sub AV⟩
section
variable{P:Program}{Q:Exit→Act→World→Prop}{a:Act}{W w:World}{c:Code}
theorem VW{F:Nat→Nat→Nat→Nat→Act}(rs:Nat→Nat→Nat→Nat→List Au)(h:c.wp P (fun e a w=>e= .normal∧∃g g' g2 g3,a=F g g' g2 g3∧St W w (rs g g' g2 g3)) a w)(k:∀g g' g2 g3 w,St W w (rs g g' g2 g3)→Q .normal (F g g' g2 g3) w):c.wp P Q a w:=
 Code.wp_mono (fun e a w ⟨he,g,g',g2,g3,ha,hS⟩=>by subst he;subst ha;exact k g g' g2 g3 w hS) h
end
def R0(g5 g6 g8 g9:Nat)(s:List Int×List Int):Au:=star [blk g5 [.slice (some ⟨g8,0,none⟩) 256 256],blk g6 [.slice (some ⟨g9,0,none⟩) 256 256],own 3 1 (some ⟨g8,0,none⟩) 256 256 ((Cl s.1).map (Value.int .i64)),own 3 1 (some ⟨g9,0,none⟩) 256 256 ((Cl s.2).map (Value.int .i64))]
theorem PN(W w0:World)(rs rs':List Au)(g5 g6 g8 g9:Nat)(A B:List Int)(t0 t1 t2:Int)(b:Bool)(hS:St W w0 rs)(hp:AT (R0 g5 g6 g8 g9 (A,B)) rs rs')(hb:A.length+B.length≤1000000)(ht:0≤t0∧t0<256):
 Calls Tryz.prog 101 #[.agg #[.int .i64 t0, .int .i64 t1, .int .i64 t2], .bool b, .pointer (some ⟨g5,0,none⟩), .pointer (some ⟨g6,0,none⟩)] w0 fun e w=>e= .returned (.int .i64 0)∧St W w (R0 g5 g6 g8 g9 (By (A,B) (t0,t1,t2) b).2::rs'):=by
 obtain ⟨_,hS⟩:=(hS.pull hp).open
 dsimp only [List.cons_append,List.nil_append] at hS
 obtain ⟨q,rfl⟩:∃q:Nat,t0=(q:Int):=⟨t0.toNat,by omega⟩
 have hq:q<256:=by omega
 have hA:=GY A hq
 have hB:=GY B hq
 have HCA:=AD (Nj A hq)
 have HCB:=AD (Nj B hq)
 clear hp
 cases b
 ·have HR:=AD (show (By (A,B) ((q:Int),t1,t2) false).2=(A,B++[(q:Int)]) from rfl)
  go_enter Tryz.func101,Tryz.ntmps101
  repeat' (first
   | refine X0 ?_|refine V5 4 ?_;clear hS;intro g4 w hS|refine AG ?_;go_step|fail)
  repeat' (first
   | refine X8 ?_|refine bm ?_|refine Vl 18 ?_|refine X7 ?_|refine Vl 21 ?_|refine ZH ?_|refine bX ?_|refine Yx ?_;clear hS;intro w hS|refine AG ?_;go_step|fail)
  go_ret
  rw [HR.out]
  refine ⟨rfl,St.close () ?_⟩
  dsimp only [List.cons_append,List.nil_append]
  rw [←HCB.out]
  exact hS.sub AV
 have HR:=AD (show (By (A,B) ((q:Int),t1,t2) true).2=(A++[(q:Int)],B) from rfl)
 go_enter Tryz.func101,Tryz.ntmps101
 repeat' (first
  | refine X0 ?_|refine bm ?_|refine Vl 11 ?_|refine X7 ?_|refine Vl 14 ?_|refine V5 4 ?_;clear hS;intro g4 w hS|refine ZH ?_|refine bX ?_|refine Yx ?_;clear hS;intro w hS|refine AG ?_;go_step|fail)
 repeat' (first
  | refine AG ?_;go_step|fail)
 go_ret
 rw [HR.out]
 refine ⟨rfl,St.close () ?_⟩
 dsimp only [List.cons_append,List.nil_append]
 rw [←HCA.out]
 exact hS.sub AV
def Th(W:World)(g5 g6 g8 g9:Nat):aS W (List Int×List Int) where
 step:=By
 res:=R0 g5 g6 g8 g9
 ok s m:=s.1.length+s.2.length+m≤1000000
 K:=101
 caps:=#[.pointer (some ⟨g5,0,none⟩), .pointer (some ⟨g6,0,none⟩)]
 inv:=Tryz.call101
 okS s m t b h _ _:=by
  cases b<;>simp [By]<;>omega
 okM s m k h hk:=by omega
 call w rs rs' s m t0 t1 t2 b er s' hS hp h ht hst:=by
  obtain ⟨A,B⟩:=s
  have e1:er=0:=by have:=congrArg Prod.fst hst;exact this.symm
  have e2:s'=(By (A,B) (t0,t1,t2) b).2:=by rw [hst]
  subst e1;subst e2
  exact PN W w rs rs' g5 g6 g8 g9 A B t0 t1 t2 b hS hp (by dsimp only at h;omega) ht.1
theorem Qe(W w0:World)(rs rs':List Au)(g5 g6 g8 g9:Nat)(ad:Option Addr)(n c:Nat)(l:List Int)(E:Int)(hE:Bb l n=E)(hn:n≤9223372036854775807)(hv:Sl W 64 (.slice ad n c) n (l.map (Value.int .i64)))(hS:St W w0 rs)(hp:AT (R0 g5 g6 g8 g9 ([],[])) rs rs'):
 Calls Tryz.prog 100 #[.slice ad n c, .func (.func 101) #[] #[.pointer (some ⟨g5,0,none⟩), .pointer (some ⟨g6,0,none⟩)]] w0 fun e w=>e= .returned (.int .i64 E)∧∃s',(E=0→s'=(PB l n,KY l n))∧St W w (R0 g5 g6 g8 g9 s'::rs'):=by
 refine (Nq (Th W g5 g6 g8 g9) w0 rs rs' ([],[]) ad n c l hn hv hS hp (by show (0+0+25600≤1000000);omega)).mono ?_
 rintro e w ⟨s',hs',rfl,hS⟩
 have h2:DX (Th W g5 g6 g8 g9).step (DH l 0 n) ([],[])=(0,PB l n,KY l n):=JP l n
 rw [h2] at hs'⊢
 rw [hE] at hs'⊢
 refine ⟨?_,s',hs',hS⟩
 by_cases h0:E=0
 ·rw [if_pos h0,h0]
 rw [if_neg h0]
def Ri(w0:World)(l:List Int)(n:Nat)(e:Ending)(w:World):Prop:=
 (Bb l n=0→∃g1 g2,e= .returned (.tuple #[.slice (some ⟨g1,0,none⟩) 256 256, .slice (some ⟨g2,0,none⟩) 256 256, .int .i64 0])∧St w0 w [own 3 1 (some ⟨g1,0,none⟩) 256 256 ((Cl (PB l n)).map (Value.int .i64)),own 3 1 (some ⟨g2,0,none⟩) 256 256 ((Cl (KY l n)).map (Value.int .i64))])∧
 (Bb l n≠0→e= .returned (.tuple #[.slice none 0 0, .slice none 0 0, .int .i64 (Bb l n)])∧Al w0 w)
theorem Ea(w0:World)(ad:Option Addr)(n c:Nat)(l:List Int)(hn:n≤9223372036854775807)(hv:Sl w0 64 (.slice ad n c) n (l.map (Value.int .i64))):
 Calls Tryz.prog 71 #[.slice ad n c] w0 (Ri w0 l n):=by
 have hS:=St.start w0
 obtain ⟨E,hE⟩:∃E,Bb l n=E:=⟨_,rfl⟩
 have HE:=AD hE
 clear hE
 go_enter Tryz.func71,Tryz.ntmps71
 repeat' (first
  | refine X8 ?_|refine AG ?_;go_step|fail)
 apply VW (rs:=fun g5 g6 g8 g9=>[R0 g5 g6 g8 g9 ([],[])])
 ·refine AQ [] (fun _=>True) AA ?_
  replace hS:=hS.drew
  focus
   refine A1 [0,1,2,3] AA (by simp) (.cons Am AA ?_ (.cons Am AA ?_ (.cons Am AA ?_ (.cons Am AA ?_ (.nil)))))
   rotate_left 3
   focus
    refine Y3 ?_;clear hS;intro g6 w hS
    refine A1 [0,1,2] AA (by simp) (.cons Am AA ?_ (.cons Am AA ?_ (.cons Am AA ?_ (.nil))))
    rotate_left 2
    focus
     refine Y3 ?_;clear hS;intro g5 w hS
     refine A1 [0,1] AA (by simp) (.cons Am AA ?_ (.cons Am AA ?_ (.nil)))
     rotate_left 1
     focus
      refine Y2 ?_;clear hS;intro g9 w hS
      refine Aa 0 ?_
      refine Y2 ?_;clear hS;intro g8 w hS
      refine Aa 4 ?_
      refine Y0 ?_;clear hS;intro w hS
      refine Aa 5 ?_
      refine Y0 ?_;clear hS;intro w hS
      refine AE AA ?_ _
      exact ⟨rfl,g5,g6,g8,g9,rfl,St.close () (by dsimp only [List.cons_append,List.nil_append];rw [A5];exact hS.sub AV)⟩
     rotate_right 1
     focus
      refine Y2 ?_;clear hS;intro g8 w hS
      refine A1 [1,4] AA (by simp) (.cons Am AA ?_ (.cons Am AA ?_ (.nil)))
      rotate_left 1
      focus
       refine Y0 ?_;clear hS;intro w hS
       refine Aa 1 ?_
       refine Y2 ?_;clear hS;intro g9 w hS
       refine Aa 5 ?_
       refine Y0 ?_;clear hS;intro w hS
       refine AE AA ?_ _
       exact ⟨rfl,g5,g6,g8,g9,rfl,St.close () (by dsimp only [List.cons_append,List.nil_append];rw [A5];exact hS.sub AV)⟩
      rotate_right 1
      focus
       refine Y2 ?_;clear hS;intro g9 w hS
       refine Aa 4 ?_
       refine Y0 ?_;clear hS;intro w hS
       refine Aa 5 ?_
       refine Y0 ?_;clear hS;intro w hS
       refine AE AA ?_ _
       exact ⟨rfl,g5,g6,g8,g9,rfl,St.close () (by dsimp only [List.cons_append,List.nil_append];rw [A5];exact hS.sub AV)⟩
    rotate_right 1
    focus
     refine Y2 ?_;clear hS;intro g9 w hS
     refine A1 [0,2] AA (by simp) (.cons Am AA ?_ (.cons Am AA ?_ (.nil)))
     rotate_left 1
     focus
      refine Y3 ?_;clear hS;intro g5 w hS
      refine Aa 0 ?_
      refine Y2 ?_;clear hS;intro g8 w hS
      refine Aa 4 ?_
      refine Y0 ?_;clear hS;intro w hS
      refine Aa 5 ?_
      refine Y0 ?_;clear hS;intro w hS
      refine AE AA ?_ _
      exact ⟨rfl,g5,g6,g8,g9,rfl,St.close () (by dsimp only [List.cons_append,List.nil_append];rw [A5];exact hS.sub AV)⟩
     rotate_right 1
     focus
      refine Y2 ?_;clear hS;intro g8 w hS
      refine Aa 2 ?_
      refine Y3 ?_;clear hS;intro g5 w hS
      refine Aa 4 ?_
      refine Y0 ?_;clear hS;intro w hS
      refine Aa 5 ?_
      refine Y0 ?_;clear hS;intro w hS
      refine AE AA ?_ _
      exact ⟨rfl,g5,g6,g8,g9,rfl,St.close () (by dsimp only [List.cons_append,List.nil_append];rw [A5];exact hS.sub AV)⟩
    rotate_right 1
    focus
     refine Y2 ?_;clear hS;intro g8 w hS
     refine A1 [1,2] AA (by simp) (.cons Am AA ?_ (.cons Am AA ?_ (.nil)))
     rotate_left 1
     focus
      refine Y3 ?_;clear hS;intro g5 w hS
      refine A1 [1,4] AA (by simp) (.cons Am AA ?_ (.cons Am AA ?_ (.nil)))
      rotate_left 1
      focus
       refine Y0 ?_;clear hS;intro w hS
       refine Aa 1 ?_
       refine Y2 ?_;clear hS;intro g9 w hS
       refine Aa 5 ?_
       refine Y0 ?_;clear hS;intro w hS
       refine AE AA ?_ _
       exact ⟨rfl,g5,g6,g8,g9,rfl,St.close () (by dsimp only [List.cons_append,List.nil_append];rw [A5];exact hS.sub AV)⟩
      rotate_right 1
      focus
       refine Y2 ?_;clear hS;intro g9 w hS
       refine Aa 4 ?_
       refine Y0 ?_;clear hS;intro w hS
       refine Aa 5 ?_
       refine Y0 ?_;clear hS;intro w hS
       refine AE AA ?_ _
       exact ⟨rfl,g5,g6,g8,g9,rfl,St.close () (by dsimp only [List.cons_append,List.nil_append];rw [A5];exact hS.sub AV)⟩
     rotate_right 1
     focus
      refine Y2 ?_;clear hS;intro g9 w hS
      refine Aa 2 ?_
      refine Y3 ?_;clear hS;intro g5 w hS
      refine Aa 4 ?_
      refine Y0 ?_;clear hS;intro w hS
      refine Aa 5 ?_
      refine Y0 ?_;clear hS;intro w hS
      refine AE AA ?_ _
      exact ⟨rfl,g5,g6,g8,g9,rfl,St.close () (by dsimp only [List.cons_append,List.nil_append];rw [A5];exact hS.sub AV)⟩
   rotate_right 1
   focus
    refine Y3 ?_;clear hS;intro g5 w hS
    refine A1 [0,1,3] AA (by simp) (.cons Am AA ?_ (.cons Am AA ?_ (.cons Am AA ?_ (.nil))))
    rotate_left 2
    focus
     refine Y3 ?_;clear hS;intro g6 w hS
     refine A1 [0,1] AA (by simp) (.cons Am AA ?_ (.cons Am AA ?_ (.nil)))
     rotate_left 1
     focus
      refine Y2 ?_;clear hS;intro g9 w hS
      refine Aa 0 ?_
      refine Y2 ?_;clear hS;intro g8 w hS
      refine Aa 4 ?_
      refine Y0 ?_;clear hS;intro w hS
      refine Aa 5 ?_
      refine Y0 ?_;clear hS;intro w hS
      refine AE AA ?_ _
      exact ⟨rfl,g5,g6,g8,g9,rfl,St.close () (by dsimp only [List.cons_append,List.nil_append];rw [A5];exact hS.sub AV)⟩
     rotate_right 1
     focus
      refine Y2 ?_;clear hS;intro g8 w hS
      refine A1 [1,4] AA (by simp) (.cons Am AA ?_ (.cons Am AA ?_ (.nil)))
      rotate_left 1
      focus
       refine Y0 ?_;clear hS;intro w hS
       refine Aa 1 ?_
       refine Y2 ?_;clear hS;intro g9 w hS
       refine Aa 5 ?_
       refine Y0 ?_;clear hS;intro w hS
       refine AE AA ?_ _
       exact ⟨rfl,g5,g6,g8,g9,rfl,St.close () (by dsimp only [List.cons_append,List.nil_append];rw [A5];exact hS.sub AV)⟩
      rotate_right 1
      focus
       refine Y2 ?_;clear hS;intro g9 w hS
       refine Aa 4 ?_
       refine Y0 ?_;clear hS;intro w hS
       refine Aa 5 ?_
       refine Y0 ?_;clear hS;intro w hS
       refine AE AA ?_ _
       exact ⟨rfl,g5,g6,g8,g9,rfl,St.close () (by dsimp only [List.cons_append,List.nil_append];rw [A5];exact hS.sub AV)⟩
    rotate_right 1
    focus
     refine Y2 ?_;clear hS;intro g9 w hS
     refine A1 [0,3] AA (by simp) (.cons Am AA ?_ (.cons Am AA ?_ (.nil)))
     rotate_left 1
     focus
      refine Y3 ?_;clear hS;intro g6 w hS
      refine Aa 0 ?_
      refine Y2 ?_;clear hS;intro g8 w hS
      refine Aa 4 ?_
      refine Y0 ?_;clear hS;intro w hS
      refine Aa 5 ?_
      refine Y0 ?_;clear hS;intro w hS
      refine AE AA ?_ _
      exact ⟨rfl,g5,g6,g8,g9,rfl,St.close () (by dsimp only [List.cons_append,List.nil_append];rw [A5];exact hS.sub AV)⟩
     rotate_right 1
     focus
      refine Y2 ?_;clear hS;intro g8 w hS
      refine Aa 3 ?_
      refine Y3 ?_;clear hS;intro g6 w hS
      refine Aa 4 ?_
      refine Y0 ?_;clear hS;intro w hS
      refine Aa 5 ?_
      refine Y0 ?_;clear hS;intro w hS
      refine AE AA ?_ _
      exact ⟨rfl,g5,g6,g8,g9,rfl,St.close () (by dsimp only [List.cons_append,List.nil_append];rw [A5];exact hS.sub AV)⟩
    rotate_right 1
    focus
     refine Y2 ?_;clear hS;intro g8 w hS
     refine A1 [1,3] AA (by simp) (.cons Am AA ?_ (.cons Am AA ?_ (.nil)))
     rotate_left 1
     focus
      refine Y3 ?_;clear hS;intro g6 w hS
      refine A1 [1,4] AA (by simp) (.cons Am AA ?_ (.cons Am AA ?_ (.nil)))
      rotate_left 1
      focus
       refine Y0 ?_;clear hS;intro w hS
       refine Aa 1 ?_
       refine Y2 ?_;clear hS;intro g9 w hS
       refine Aa 5 ?_
       refine Y0 ?_;clear hS;intro w hS
       refine AE AA ?_ _
       exact ⟨rfl,g5,g6,g8,g9,rfl,St.close () (by dsimp only [List.cons_append,List.nil_append];rw [A5];exact hS.sub AV)⟩
      rotate_right 1
      focus
       refine Y2 ?_;clear hS;intro g9 w hS
       refine Aa 4 ?_
       refine Y0 ?_;clear hS;intro w hS
       refine Aa 5 ?_
       refine Y0 ?_;clear hS;intro w hS
       refine AE AA ?_ _
       exact ⟨rfl,g5,g6,g8,g9,rfl,St.close () (by dsimp only [List.cons_append,List.nil_append];rw [A5];exact hS.sub AV)⟩
     rotate_right 1
     focus
      refine Y2 ?_;clear hS;intro g9 w hS
      refine Aa 3 ?_
      refine Y3 ?_;clear hS;intro g6 w hS
      refine Aa 4 ?_
      refine Y0 ?_;clear hS;intro w hS
      refine Aa 5 ?_
      refine Y0 ?_;clear hS;intro w hS
      refine AE AA ?_ _
      exact ⟨rfl,g5,g6,g8,g9,rfl,St.close () (by dsimp only [List.cons_append,List.nil_append];rw [A5];exact hS.sub AV)⟩
   rotate_right 1
   focus
    refine Y2 ?_;clear hS;intro g9 w hS
    refine A1 [0,2,3] AA (by simp) (.cons Am AA ?_ (.cons Am AA ?_ (.cons Am AA ?_ (.nil))))
    rotate_left 2
    focus
     refine Y3 ?_;clear hS;intro g6 w hS
     refine A1 [0,2] AA (by simp) (.cons Am AA ?_ (.cons Am AA ?_ (.nil)))
     rotate_left 1
     focus
      refine Y3 ?_;clear hS;intro g5 w hS
      refine Aa 0 ?_
      refine Y2 ?_;clear hS;intro g8 w hS
      refine Aa 4 ?_
      refine Y0 ?_;clear hS;intro w hS
      refine Aa 5 ?_
      refine Y0 ?_;clear hS;intro w hS
      refine AE AA ?_ _
      exact ⟨rfl,g5,g6,g8,g9,rfl,St.close () (by dsimp only [List.cons_append,List.nil_append];rw [A5];exact hS.sub AV)⟩
     rotate_right 1
     focus
      refine Y2 ?_;clear hS;intro g8 w hS
      refine Aa 2 ?_
      refine Y3 ?_;clear hS;intro g5 w hS
      refine Aa 4 ?_
      refine Y0 ?_;clear hS;intro w hS
      refine Aa 5 ?_
      refine Y0 ?_;clear hS;intro w hS
      refine AE AA ?_ _
      exact ⟨rfl,g5,g6,g8,g9,rfl,St.close () (by dsimp only [List.cons_append,List.nil_append];rw [A5];exact hS.sub AV)⟩
    rotate_right 1
    focus
     refine Y3 ?_;clear hS;intro g5 w hS
     refine A1 [0,3] AA (by simp) (.cons Am AA ?_ (.cons Am AA ?_ (.nil)))
     rotate_left 1
     focus
      refine Y3 ?_;clear hS;intro g6 w hS
      refine Aa 0 ?_
      refine Y2 ?_;clear hS;intro g8 w hS
      refine Aa 4 ?_
      refine Y0 ?_;clear hS;intro w hS
      refine Aa 5 ?_
      refine Y0 ?_;clear hS;intro w hS
      refine AE AA ?_ _
      exact ⟨rfl,g5,g6,g8,g9,rfl,St.close () (by dsimp only [List.cons_append,List.nil_append];rw [A5];exact hS.sub AV)⟩
     rotate_right 1
     focus
      refine Y2 ?_;clear hS;intro g8 w hS
      refine Aa 3 ?_
      refine Y3 ?_;clear hS;intro g6 w hS
      refine Aa 4 ?_
      refine Y0 ?_;clear hS;intro w hS
      refine Aa 5 ?_
      refine Y0 ?_;clear hS;intro w hS
      refine AE AA ?_ _
      exact ⟨rfl,g5,g6,g8,g9,rfl,St.close () (by dsimp only [List.cons_append,List.nil_append];rw [A5];exact hS.sub AV)⟩
    rotate_right 1
    focus
     refine Y2 ?_;clear hS;intro g8 w hS
     refine A1 [2,3] AA (by simp) (.cons Am AA ?_ (.cons Am AA ?_ (.nil)))
     rotate_left 1
     focus
      refine Y3 ?_;clear hS;intro g6 w hS
      refine Aa 2 ?_
      refine Y3 ?_;clear hS;intro g5 w hS
      refine Aa 4 ?_
      refine Y0 ?_;clear hS;intro w hS
      refine Aa 5 ?_
      refine Y0 ?_;clear hS;intro w hS
      refine AE AA ?_ _
      exact ⟨rfl,g5,g6,g8,g9,rfl,St.close () (by dsimp only [List.cons_append,List.nil_append];rw [A5];exact hS.sub AV)⟩
     rotate_right 1
     focus
      refine Y3 ?_;clear hS;intro g5 w hS
      refine Aa 3 ?_
      refine Y3 ?_;clear hS;intro g6 w hS
      refine Aa 4 ?_
      refine Y0 ?_;clear hS;intro w hS
      refine Aa 5 ?_
      refine Y0 ?_;clear hS;intro w hS
      refine AE AA ?_ _
      exact ⟨rfl,g5,g6,g8,g9,rfl,St.close () (by dsimp only [List.cons_append,List.nil_append];rw [A5];exact hS.sub AV)⟩
   rotate_right 1
   focus
    refine Y2 ?_;clear hS;intro g8 w hS
    refine A1 [1,2,3] AA (by simp) (.cons Am AA ?_ (.cons Am AA ?_ (.cons Am AA ?_ (.nil))))
    rotate_left 2
    focus
     refine Y3 ?_;clear hS;intro g6 w hS
     refine A1 [1,2] AA (by simp) (.cons Am AA ?_ (.cons Am AA ?_ (.nil)))
     rotate_left 1
     focus
      refine Y3 ?_;clear hS;intro g5 w hS
      refine A1 [1,4] AA (by simp) (.cons Am AA ?_ (.cons Am AA ?_ (.nil)))
      rotate_left 1
      focus
       refine Y0 ?_;clear hS;intro w hS
       refine Aa 1 ?_
       refine Y2 ?_;clear hS;intro g9 w hS
       refine Aa 5 ?_
       refine Y0 ?_;clear hS;intro w hS
       refine AE AA ?_ _
       exact ⟨rfl,g5,g6,g8,g9,rfl,St.close () (by dsimp only [List.cons_append,List.nil_append];rw [A5];exact hS.sub AV)⟩
      rotate_right 1
      focus
       refine Y2 ?_;clear hS;intro g9 w hS
       refine Aa 4 ?_
       refine Y0 ?_;clear hS;intro w hS
       refine Aa 5 ?_
       refine Y0 ?_;clear hS;intro w hS
       refine AE AA ?_ _
       exact ⟨rfl,g5,g6,g8,g9,rfl,St.close () (by dsimp only [List.cons_append,List.nil_append];rw [A5];exact hS.sub AV)⟩
     rotate_right 1
     focus
      refine Y2 ?_;clear hS;intro g9 w hS
      refine Aa 2 ?_
      refine Y3 ?_;clear hS;intro g5 w hS
      refine Aa 4 ?_
      refine Y0 ?_;clear hS;intro w hS
      refine Aa 5 ?_
      refine Y0 ?_;clear hS;intro w hS
      refine AE AA ?_ _
      exact ⟨rfl,g5,g6,g8,g9,rfl,St.close () (by dsimp only [List.cons_append,List.nil_append];rw [A5];exact hS.sub AV)⟩
    rotate_right 1
    focus
     refine Y3 ?_;clear hS;intro g5 w hS
     refine A1 [1,3] AA (by simp) (.cons Am AA ?_ (.cons Am AA ?_ (.nil)))
     rotate_left 1
     focus
      refine Y3 ?_;clear hS;intro g6 w hS
      refine A1 [1,4] AA (by simp) (.cons Am AA ?_ (.cons Am AA ?_ (.nil)))
      rotate_left 1
      focus
       refine Y0 ?_;clear hS;intro w hS
       refine Aa 1 ?_
       refine Y2 ?_;clear hS;intro g9 w hS
       refine Aa 5 ?_
       refine Y0 ?_;clear hS;intro w hS
       refine AE AA ?_ _
       exact ⟨rfl,g5,g6,g8,g9,rfl,St.close () (by dsimp only [List.cons_append,List.nil_append];rw [A5];exact hS.sub AV)⟩
      rotate_right 1
      focus
       refine Y2 ?_;clear hS;intro g9 w hS
       refine Aa 4 ?_
       refine Y0 ?_;clear hS;intro w hS
       refine Aa 5 ?_
       refine Y0 ?_;clear hS;intro w hS
       refine AE AA ?_ _
       exact ⟨rfl,g5,g6,g8,g9,rfl,St.close () (by dsimp only [List.cons_append,List.nil_append];rw [A5];exact hS.sub AV)⟩
     rotate_right 1
     focus
      refine Y2 ?_;clear hS;intro g9 w hS
      refine Aa 3 ?_
      refine Y3 ?_;clear hS;intro g6 w hS
      refine Aa 4 ?_
      refine Y0 ?_;clear hS;intro w hS
      refine Aa 5 ?_
      refine Y0 ?_;clear hS;intro w hS
      refine AE AA ?_ _
      exact ⟨rfl,g5,g6,g8,g9,rfl,St.close () (by dsimp only [List.cons_append,List.nil_append];rw [A5];exact hS.sub AV)⟩
    rotate_right 1
    focus
     refine Y2 ?_;clear hS;intro g9 w hS
     refine A1 [2,3] AA (by simp) (.cons Am AA ?_ (.cons Am AA ?_ (.nil)))
     rotate_left 1
     focus
      refine Y3 ?_;clear hS;intro g6 w hS
      refine Aa 2 ?_
      refine Y3 ?_;clear hS;intro g5 w hS
      refine Aa 4 ?_
      refine Y0 ?_;clear hS;intro w hS
      refine Aa 5 ?_
      refine Y0 ?_;clear hS;intro w hS
      refine AE AA ?_ _
      exact ⟨rfl,g5,g6,g8,g9,rfl,St.close () (by dsimp only [List.cons_append,List.nil_append];rw [A5];exact hS.sub AV)⟩
     rotate_right 1
     focus
      refine Y3 ?_;clear hS;intro g5 w hS
      refine Aa 3 ?_
      refine Y3 ?_;clear hS;intro g6 w hS
      refine Aa 4 ?_
      refine Y0 ?_;clear hS;intro w hS
      refine Aa 5 ?_
      refine Y0 ?_;clear hS;intro w hS
      refine AE AA ?_ _
      exact ⟨rfl,g5,g6,g8,g9,rfl,St.close () (by dsimp only [List.cons_append,List.nil_append];rw [A5];exact hS.sub AV)⟩
 clear hS
 intro g5 g6 g8 g9 w hS
 by_cases hE0:E=0
 ·subst hE0
  repeat' (first
   | refine bc 11 ?_|(refine AS 12 ?_);refine AN (f:=100) Tryz.call100 AA ?_;refine ⟨_,(Qe w0 w _ _ g5 g6 g8 g9 ad n c l 0 HE.out hn hv hS AT.head),?_⟩;clear hS;rintro e w ⟨rfl,s',hs',hS⟩;obtain rfl:=hs' rfl;clear hs';refine Ae ?_;go_step|refine X0 ?_|refine X3 ?_|refine AG ?_;go_step|fail)
  all_goals (try exact AW)
  obtain ⟨_,hS⟩:=(hS.pull AT.head).open
  dsimp only [List.cons_append,List.nil_append] at hS
  refine AQ [] (fun w=>St w0 w [blk g5 [.slice (some ⟨g8,0,none⟩) 256 256],blk g6 [.slice (some ⟨g9,0,none⟩) 256 256]]) AA ?_
  replace hS:=hS.drew
  focus
   refine bq 0 [2,3,4] ?_
   refine bq 1 [3,4] ?_
   refine Ab 2 ?_
   refine Ab 3 ?_
   refine Ab 4 ?_
   refine AE AA ?_ _
  all_goals
   repeat' (first|(refine AG ?_;go_step)|fail)
   refine AM (xs:=[_,_,_]) rfl (.cons (AC.tmp rfl) (.cons (AC.tmp rfl) (.cons (AC.tmp rfl) (.nil)))) (by simp) rfl ?_
   exact ⟨fun _=>⟨g8,g9,rfl,hS.sub AV⟩,fun h=>absurd HE.out h⟩
 repeat' (first
  | refine bc 11 ?_|(refine AS 12 ?_);refine AN (f:=100) Tryz.call100 AA ?_;refine ⟨_,(Qe w0 w _ _ g5 g6 g8 g9 ad n c l E HE.out hn hv hS AT.head),?_⟩;clear hS;rintro e w ⟨rfl,s',hs',hS⟩;clear hs';refine Ae ?_;go_step|refine X0 ?_|refine X3 ?_|refine AG ?_;go_step|fail)
 all_goals (try exact AW)
 refine AM (xs:=[_,_,_]) rfl (.cons (AC.tmp rfl) (.cons (AC.tmp rfl) (.cons (AC.tmp rfl) (.nil)))) (by simp) rfl ?_
 exact ⟨fun h=>absurd (HE.out.symm.trans h) hE0,fun _=>⟨by rw [HE.out];rfl,hS.1⟩⟩
theorem Uv{C1 S1 C2 S2 l:List Int}{n:Nat}(hl:l.length=n*64)(h:Cj C1 S1 C2 S2 l n=0):
 ∃cc:List Nat,(∀x∈cc,x<256)∧DT C1 S1 C2 S2 l n=Db (FU cc)∧(DT C1 S1 C2 S2 l n).length≤300000:=by
 have ht:Dw C1 S1 C2 S2=0:=by
  unfold Cj at h
  by_cases h1:Dw C1 S1 C2 S2=0
  ·exact h1
  rw [if_neg h1] at h;exact absurd h h1
 have hb:Bb l n=0:=by
  unfold Cj at h
  rw [if_pos ht] at h
  by_cases h1:Bb l n=0
  ·exact h1
  rw [if_neg h1] at h;exact absurd h h1
 have ht1:BA C1 S1=0:=by
  unfold Dw at ht
  by_cases h1:BA C1 S1=0
  ·exact h1
  rw [if_neg h1] at ht;exact absurd ht h1
 have ht2:BA C2 S2=0:=by unfold Dw at ht;rw [if_pos ht1] at ht;exact ht
 have hlen:=I4 ht1 ht2 hl (G4 hb)
 have e:DT C1 S1 C2 S2 l n=Db (FU (bytesOf (Br C1 S1 C2 S2 l n))):=by unfold DT;rw [if_pos h]
 refine ⟨_,D4 _,e,?_⟩
 rw [e,Mu]
 have h1:=List.count_le_length (a:=(255:Int)) (l:=FU (bytesOf (Br C1 S1 C2 S2 l n)))
 have h2:(FU (bytesOf (Br C1 S1 C2 S2 l n))).length=((Br C1 S1 C2 S2 l n).length+7)/8:=by unfold FU;rw [List.length_map,FV]
 omega
theorem Uu{C1 S1 C2 S2 l:List Int}{n:Nat}(h:Cj C1 S1 C2 S2 l n≠0):DT C1 S1 C2 S2 l n=[]:=by unfold DT;rw [if_neg h]
theorem Og(n every:Nat):∀f at_,∀x∈Dg n every f at_,x.1≤x.2∧x.2≤n
 | 0,_,x,hx=>by simp [Dg] at hx
 | f+1,at_,x,hx=>by
   unfold Dg at hx
   by_cases h0:at_<n
   ·rw [if_pos h0] at hx
    rcases List.mem_cons.1 hx with rfl|hx
    ·dsimp only;omega
    exact Og n every f _ x hx
   rw [if_neg h0] at hx;cases hx
theorem RL(n every:Nat):∀x∈Bc n every,x.1≤x.2∧x.2≤n:=by
 intro x hx
 unfold Bc at hx
 by_cases h:every=0∨n=0
 ·rw [if_pos h] at hx;simp at hx;subst hx;dsimp only;omega
 rw [if_neg h] at hx;exact Og n every n 0 x hx
theorem Lr(n every:Nat)(h:0<every):∀f at_,(Dg n every f at_).length≤n-at_
 | 0,_=>by simp [Dg]
 | f+1,at_=>by
   unfold Dg
   by_cases h0:at_<n
   ·rw [if_pos h0,List.length_cons]
    have:=Lr n every h f (at_+every)
    omega
   rw [if_neg h0];simp
theorem Oi(n every:Nat):(Bc n every).length≤n+1:=by
 unfold Bc
 by_cases h:every=0∨n=0
 ·rw [if_pos h];simp
 rw [if_neg h]
 have:=Lr n every (by omega) n 0
 omega
def BB(l:List Int)(f t:Nat):List Int:=(l.drop (f*64)).take ((t-f)*64)
def Fy(C1 S1 C2 S2 l:List Int):List (Nat×Nat)→Nat→Int×List Int
 | [],_=>(0,[])
 | x::L,k=>if Cj C1 S1 C2 S2 (BB l x.1 x.2) (x.2-x.1)≠0 then (Cj C1 S1 C2 S2 (BB l x.1 x.2) (x.2-x.1),[]) else
   ((Fy C1 S1 C2 S2 l L (k+1)).1,(if k=0 then [] else [255,((208+(k-1)%8:Nat):Int)])++(DT C1 S1 C2 S2 (BB l x.1 x.2) (x.2-x.1)++(Fy C1 S1 C2 S2 l L (k+1)).2))
def FN(C1 S1 C2 S2 l:List Int)(n:Nat)(every:Int):Int×List Int:=
 if 0≤every∧every≤100 then if Dw C1 S1 C2 S2=0 then if Bb l n=0 then
  if (Fy C1 S1 C2 S2 l (Bc n every.toNat) 0).1=0 then Fy C1 S1 C2 S2 l (Bc n every.toNat) 0 else ((Fy C1 S1 C2 S2 l (Bc n every.toNat) 0).1,[])
 else (Bb l n,[]) else (Dw C1 S1 C2 S2,[]) else (1,[])
structure Jj(p:Prop):Prop where
 out:p
theorem Fj(w0:World)(C1 C2 S1 S2:List Int)(a1 a2:Option Addr)(n1 n2 k1 k2:Nat)(hC1:Ap C1 16)(hC2:Ap C2 16)(hs1:Sl w0 1 (.slice a1 n1 k1) n1 (S1.map (Value.int .i64)))(hs2:Sl w0 1 (.slice a2 n2 k2) n2 (S2.map (Value.int .i64)))(hn1:n1≤9223372036854775807)(hn2:n2≤9223372036854775807)(ad:Option Addr)(n c:Nat)(l:List Int)(hn:n≤9223372036854775807)(hv:Sl w0 64 (.slice ad n c) n (l.map (Value.int .i64)))(every:Int):
 Calls Tryz.prog 42 #[.agg (AI [.ints C1, .val (.slice a1 n1 k1), .ints C2, .val (.slice a2 n2 k2)]).toArray, .slice ad n c, .int .i64 every] w0 (PD w0 (FN C1 S1 C2 S2 l n every).1 (FN C1 S1 C2 S2 l n every).2):=by
 have hl:l.length=n*64:=by have:=hv.1;simpa using this
 have hnc:n≤c:=by
  obtain ⟨_,a',c',e,h1,_⟩:=hv
  cases e;exact h1
 have HLl:=AD hl
 have hS:=St.start w0
 have hL1:=AD (Dc C1 (.slice a1 n1 k1) hC1)
 have hL2:=AD (Dc C2 (.slice a2 n2 k2) hC2)
 obtain ⟨E1,hE1⟩:∃x,BA C1 S1=x:=⟨_,rfl⟩
 obtain ⟨E2,hE2⟩:∃x,BA C2 S2=x:=⟨_,rfl⟩
 have HE1:=AD hE1
 have HE2:=AD hE2
 have HT:=AD (show Dw C1 S1 C2 S2=if E1=0 then E2 else E1 by unfold Dw;rw [hE1,hE2])
 clear hE1 hE2 hl
 by_cases hev:0≤every∧every≤100
 case neg=>
  have HP:=AD (show FN C1 S1 C2 S2 l n every=(1,[]) by unfold FN;rw [if_neg hev])
  have hbad:every<0∨100<every:=by omega
  clear hev
  rcases hbad with h|h
  all_goals
   go_enter Tryz.func42,Tryz.ntmps42
   repeat' (first
    | go_skip|((first|(with_reducible refine JG ?_)|(with_reducible refine QW ?_));(first|go_big_want|go_step);go_step)|((with_reducible refine An _ (.pick _ _ _) ?_);first|(refine BJ rfl AA ?_;go_step)|(refine BC rfl AA ?_;go_step))|((refine AS 20 ?_);(refine Cg _ (V.lss rfl rfl) AA (fun hB=>?_) (fun hB=>?_)<;>(try exact AW)<;>go_step))|((with_reducible refine An _ (.binOp .gtr _ _ _ _) ?_);(refine As AA (V.gtr rfl rfl) ?_;go_step))|((refine AS 3 ?_);(refine Ag ?_;apply H4 (o:=⟨some 3,_,_,_,_,_⟩) hS 34 _ rfl _ rfl;clear hS;intro g3 w hS;refine AB ?_;go_step))|(refine AG ?_;go_step)|fail)
   all_goals (try exact AW)
   all_goals
    refine AM (xs:=[_,_]) rfl (.cons (AC.tmp rfl) (.cons (AC.tmp rfl) (.nil))) (by simp) rfl ?_
    exact EQ 1 (by rw [HP.out]) (by rw [HP.out]) hS.1
 obtain ⟨Ev,rfl⟩:∃N:Nat,every=(N:Int):=⟨every.toNat,by omega⟩
 have HP:=AD (show FN C1 S1 C2 S2 l n Ev=if Dw C1 S1 C2 S2=0 then if Bb l n=0 then if (Fy C1 S1 C2 S2 l (Bc n Ev) 0).1=0 then Fy C1 S1 C2 S2 l (Bc n Ev) 0 else ((Fy C1 S1 C2 S2 l (Bc n Ev) 0).1,[]) else (Bb l n,[]) else (Dw C1 S1 C2 S2,[]) by unfold FN;rw [if_pos hev,Int.toNat_natCast])
 go_enter Tryz.func42,Tryz.ntmps42
 repeat' (first
  | refine X0 ?_|refine Gz ?_|refine EN 20 ?_ ?_<;>intro hB<;>(try exact AW)<;>go_step|refine Gv ?_|refine PG 3 ?_;clear hS;intro g3 w hS|refine AG ?_;go_step|fail)
 all_goals (try exact AW)
 repeat' (first
  | (refine AS 29 ?_);refine Ag ?_;refine AU (o:=⟨some 29,_,_,_,_,_⟩) hS 115 2 _ rfl 32 17 152 Ns _ _ (AX.agg rfl hL1.out (AX.agg rfl hL2.out AX.nil)) rfl (by decide) (by decide) ?_;clear hS;intro g29 w hS;replace hS:=Hu hS;refine AB ?_;go_step|refine X1 ?_|refine aV ?_|refine aW ?_|refine bi ?_|refine LU ?_|refine AG ?_;go_step|fail)
 clear hL1 hL2
 go_loopg [31] 2 (fun gk kv w=>∃k:Nat,gk+k=2∧kv= .int .i64 k∧(1≤k→E1=0)∧(2≤k→E2=0)∧St w0 w [prt g3 [.ints C1, .val (.slice a1 n1 k1), .ints C2, .val (.slice a2 n2 k2)],prt g29 [.ints C1, .val (.slice a1 n1 k1), .ints C2, .val (.slice a2 n2 k2)]])
 case atStart=>exact ⟨0,rfl,rfl,fun h=>absurd h (by omega),fun h=>absurd h (by omega),hS.sub AV⟩
 case round=>
  clear hS
  obtain ⟨k,hk,rfl,HA,HB,hS⟩:=hrel
  by_cases hlt:k<2
  ·obtain rfl|rfl:k=0∨k=1:=by omega
   ·clear HA HB
    repeat' (first
     | (refine A3 73 ?_);refine A4 AA Tryz.call73 (CT _ C1 S1 a1 n1 k1 hC1 (hs1.ext hS.1) hn1) ?_;rintro e w ⟨rfl,hE2⟩;rw [HE1.out];replace hS:=hS.ext hE2;clear hE2;refine Ae ?_;go_step|refine X0 ?_|refine X2 ?_|refine Vk 33 ?_|refine X3 ?_|refine X7 ?_|refine LU ?_|refine Rk 9 ?_;clear hS;intro g9 w hS|refine TE ?_;clear hS;intro w hS|refine AG ?_;go_step|fail)
    ·have h9:FN C1 S1 C2 S2 l n Ev=(E1,[]):=by rw [HP.out,HT.out,if_neg (show ¬E1=0 by omega),if_neg (by omega)]
     refine AM (xs:=[_,_]) rfl (.cons (AC.tmp rfl) (.cons (AC.tmp rfl) (.nil))) (by simp) rfl ?_
     exact EQ E1 (by rw [h9]) (by rw [h9]) hS.1
    go_roundg (gk-1)
    case measure=>omega
    case rel=>exact ⟨1,by omega,rfl,fun _=>by omega,fun h=>absurd h (by omega),hS.sub AV⟩
   have h1:=HA (by omega)
   subst h1
   clear HA HB
   repeat' (first
    | (refine A3 73 ?_);refine A4 AA Tryz.call73 (CT _ C2 S2 a2 n2 k2 hC2 (hs2.ext hS.1) hn2) ?_;rintro e w ⟨rfl,hE2⟩;rw [HE2.out];replace hS:=hS.ext hE2;clear hE2;refine Ae ?_;go_step|refine X0 ?_|refine X2 ?_|refine Vk 33 ?_|refine X3 ?_|refine X7 ?_|refine LU ?_|refine Rk 9 ?_;clear hS;intro g9 w hS|refine TE ?_;clear hS;intro w hS|refine AG ?_;go_step|fail)
   ·have h9:FN C1 S1 C2 S2 l n Ev=(E2,[]):=by rw [HP.out,HT.out,if_pos rfl,if_neg (by omega)]
    refine AM (xs:=[_,_]) rfl (.cons (AC.tmp rfl) (.cons (AC.tmp rfl) (.nil))) (by simp) rfl ?_
    exact EQ E2 (by rw [h9]) (by rw [h9]) hS.1
   go_roundg (gk-1)
   case measure=>omega
   case rel=>exact ⟨2,by omega,rfl,fun _=>rfl,fun _=>by omega,hS.sub AV⟩
  obtain rfl:k=2:=by omega
  have h1:=HA (by omega)
  have h2:=HB (by omega)
  subst h1;subst h2
  clear HA HB
  have HP2:=AD (show FN C1 S1 C2 S2 l n Ev=if Bb l n=0 then if (Fy C1 S1 C2 S2 l (Bc n Ev) 0).1=0 then Fy C1 S1 C2 S2 l (Bc n Ev) 0 else ((Fy C1 S1 C2 S2 l (Bc n Ev) 0).1,[]) else (Bb l n,[]) by rw [HP.out,HT.out,if_pos rfl,if_pos rfl])
  clear HP
  by_cases hbk:Bb l n=0
  case neg=>
   obtain ⟨E,hE⟩:∃E,Bb l n=E:=⟨_,rfl⟩
   have h0:E≠0:=by rw [←hE];exact hbk
   have HE:=AD hE
   have HP3:=AD (show FN C1 S1 C2 S2 l n Ev=(E,[]) by rw [HP2.out,if_neg hbk,hE])
   clear hbk hE
   repeat' (first
    | refine X1 ?_|refine X2 ?_|refine AG ?_;go_step|fail)
   repeat' (first
    | (refine AS 43 ?_);refine AN (f:=71) Tryz.call71 AA ?_;refine ⟨_,(Ea _ ad n c l hn (hv.ext hS.1)),?_⟩;rintro e w ⟨_,hq⟩;rw [HE.out] at hq;obtain ⟨rfl,hE2⟩:=hq h0;clear hq;replace hS:=hS.ext hE2;clear hE2;refine Ae ?_;go_step|refine X0 ?_|refine X6 ?_|refine X3 ?_|refine AG ?_;go_step|fail)
   all_goals (try exact AW)
   refine AM (xs:=[_,_]) rfl (.cons (AC.tmp rfl) (.cons (AC.tmp rfl) (.nil))) (by simp) rfl ?_
   exact EQ E (by rw [HP3.out]) (by rw [HP3.out]) hS.1
  have HBK:=AD hbk
  have hn4:=G4 hbk
  obtain ⟨M,hM⟩:∃M,(Bc n Ev).length=M:=⟨_,rfl⟩
  have hM4:M≤401:=by rw [←hM];have:=Oi n Ev;omega
  have HM:=AD hM
  obtain ⟨D,hD⟩:∃D,Fy C1 S1 C2 S2 l (Bc n Ev) 0=D:=⟨_,rfl⟩
  have HP3:=AD (show FN C1 S1 C2 S2 l n Ev=if D.1=0 then D else (D.1,[]) by rw [HP2.out,if_pos hbk,hD])
  have HD:=AD hD
  clear hbk hD hM HP2
  repeat' (first
   | refine X1 ?_|refine X2 ?_|refine AG ?_;go_step|fail)
  repeat' (first
   | (refine AS 43 ?_);refine AN (f:=71) Tryz.call71 AA ?_;refine ⟨_,(Ea _ ad n c l hn (hv.ext hS.1)),?_⟩;rintro e w ⟨hq,_⟩;obtain ⟨g1,g2,rfl,hS2⟩:=hq HBK.out;clear hq;replace hS:=hS.ext hS2.1;clear hS2;refine Ae ?_;go_step|refine X0 ?_|refine X6 ?_|refine X3 ?_|refine AG ?_;go_step|fail)
  all_goals (try exact AW)
  repeat' (first
   | (refine AS 53 ?_);refine AN (f:=50) Tryz.call50 AA ?_;refine ⟨_,(El _ n Ev (by omega) (by omega)),?_⟩;rintro e w ⟨a3,c3,m3,hm3,rfl,hS2⟩;obtain rfl:M=m3:=(by rw [←hm3];exact HM.out.symm);clear hm3;replace hS:=hS.call1 hS2;clear hS2;refine Ae ?_;go_step|refine X1 ?_|refine TF ?_|refine bk ?_|refine AG ?_;go_step|fail)
  replace hS:=hS.nilk 5 1 .u8
  clear hk
  go_loopg [14,55] M (fun gk ov kv w=>∃(k m:Nat) (acc:List Int) (ao:Option Addr) (co:Nat),gk+k=M∧kv= .int .i64 k∧ov= .slice ao m co∧m≤300002*k∧Hid (acc.length=m)∧Jj (D=((Fy C1 S1 C2 S2 l ((Bc n Ev).drop k) k).1,acc++(Fy C1 S1 C2 S2 l ((Bc n Ev).drop k) k).2))∧St w0 w [own 5 1 ao m co (acc.map (Value.int .u8)),prt g3 [.ints C1, .val (.slice a1 n1 k1), .ints C2, .val (.slice a2 n2 k2)],own 94 2 a3 M c3 ((P7 (Bc n Ev)).map (Value.int .i64))])
  case atStart=>exact ⟨0,0,[],none,0,by omega,rfl,rfl,by omega,AD rfl,⟨by rw [←HD.out];rfl⟩,hS.sub AV⟩
  case round=>
   clear hS
   obtain ⟨k,m,acc,ao,co,hk,rfl,rfl,hm4,HQ,HV,hS⟩:=hrel
   by_cases hlt:k<M
   ·obtain ⟨⟨f,t⟩,hx⟩:∃x,(Bc n Ev)[k]? =some x:=⟨_,List.getElem?_eq_getElem (by rw [HM.out];exact hlt)⟩
    have hft:=RL n Ev _ (List.mem_of_getElem? hx)
    dsimp only at hft
    have hseg:=JY (Bc n Ev) k _ hx
    dsimp only at hseg
    have hd1:(Bc n Ev).drop k=(f,t)::(Bc n Ev).drop (k+1):=by
     rw [List.drop_eq_getElem_cons (by rw [HM.out];exact hlt)]
     rw [List.getElem?_eq_getElem (by rw [HM.out];exact hlt)] at hx
     rw [Option.some.inj hx]
    obtain ⟨E,hE⟩:∃E,Cj C1 S1 C2 S2 (BB l f t) (t-f)=E:=⟨_,rfl⟩
    obtain ⟨B,hB⟩:∃B,DT C1 S1 C2 S2 (BB l f t) (t-f)=B:=⟨_,rfl⟩
    have hsl:(BB l f t).length=(t-f)*64:=by
     unfold BB
     rw [List.length_take,List.length_drop,HLl.out]
     have h1:(t-f)*64≤n*64-f*64:=by rw [←Nat.sub_mul];exact Nat.mul_le_mul_right 64 (by omega)
     omega
    have hBl:B.length≤300000:=by
     by_cases h:Cj C1 S1 C2 S2 (BB l f t) (t-f)=0
     ·obtain ⟨_,_,_,h3⟩:=Uv hsl h;rw [←hB];exact h3
     rw [←hB,Uu h];simp
    have hcc:=hv.cutAt f t hft.1 hft.2
    rw [show ((l.map (Value.int .i64)).drop (f*64)).take ((t-f)*64)=(BB l f t).map (Value.int .i64) by unfold BB;simp] at hcc
    have hstep:Jj (Fy C1 S1 C2 S2 l ((Bc n Ev).drop k) k=if E≠0 then (E,[]) else ((Fy C1 S1 C2 S2 l ((Bc n Ev).drop (k+1)) (k+1)).1,(if k=0 then [] else [255,((208+(k-1)%8:Nat):Int)])++(B++(Fy C1 S1 C2 S2 l ((Bc n Ev).drop (k+1)) (k+1)).2))):=⟨by rw [hd1,Fy];simp only [hE,hB]⟩
    have HE:=AD hE
    have HB:=AD hB
    obtain ⟨mB,hmB⟩:∃x,B.length=x:=⟨_,rfl⟩
    rw [hmB] at hBl
    have HMB:=AD hmB
    obtain ⟨g5,rfl⟩:=CE (a:=a3) hS AJ (by omega)
    clear hx hd1 hE hB hsl hmB
    by_cases hk0:k=0
    ·obtain ⟨acc1,hA1⟩:∃a,acc++(if k=0 then [] else [255,((208+(k-1)%8:Nat):Int)])=a:=⟨_,rfl⟩
     have hA2:acc=acc1:=by rw [←hA1,if_pos hk0,List.append_nil]
     have HA1:=AD hA1
     have HL1:=AD (show acc1.length=m by rw [←hA2];exact HQ.out)
     repeat' (first
      | refine X0 ?_|refine X2 ?_|refine WU 58 ?_|refine Gv ?_|refine WL ?_|refine cS 16 ?_;clear hS;intro g16 w hS|refine WC ?_;clear hS;intro w hS|refine AG ?_;go_step|fail)
     all_goals (try exact AW)
     replace hS:St w0 w [blk g16 [.int .i64 (f:Nat), .int .i64 (t:Nat)],own 5 1 ao m co (acc.map (Value.int .u8)),prt g3 [.ints C1, .val (.slice a1 n1 k1), .ints C2, .val (.slice a2 n2 k2)],own 94 2 (some ⟨g5,0,none⟩) M c3 ((P7 (Bc n Ev)).map (Value.int .i64))]:=hS
     rw [hA2] at hS
     clear hA1 hA2
     refine AQ [7] (fun w=>St w0 w [prt g3 [.ints C1, .val (.slice a1 n1 k1), .ints C2, .val (.slice a2 n2 k2)],blk g16 [.int .i64 (f:Nat), .int .i64 (t:Nat)]]) AA ?_
     replace hS:=hS.drew
     focus
      refine br 0 [7,8,9,10,11,12] ?_
      refine Ab 1 ?_
      refine Bf 2 BU (V.fieldAddr MX rfl BO) ?_;go_step
      refine Y7 3 [6,7,8,9,10,11,12] ?_
      refine Bf 4 BU (V.fieldAddr MY rfl BO) ?_;go_step
      refine Y7 5 [6,7,8,9,10,11,12] ?_
      refine cu 6 ?_
      refine Aa 7 ?_
      refine Af (f:=75) rfl Tryz.call75 (GT _ C1 C2 S1 S2 a1 a2 n1 n2 k1 k2 hC1 hC2 (hs1.ext hS.1) (hs2.ext hS.1) hn1 hn2 (cutAt ad c f 64) (t-f) (c-f) (BB l f t) (by omega) (hcc.ext hS.1)) ?_;rintro e w ⟨ap,cp,mp,hmp,rfl,hS2⟩;rw [HB.out] at hS2;rw [HB.out,HMB.out] at hmp;subst hmp;rw [HE.out];replace hS:=hS.call1 hS2;clear hS2;refine ⟨_,rfl,?_⟩
      refine ⟨fun h=>absurd (by decide) h,?_⟩
      refine AF ?_
      go_step
      refine Ab 8 ?_
      refine Y4 9 ?_
      refine Y4 10 ?_
      refine Ab 11 ?_
      refine Ab 12 ?_
      refine AE AA ?_ _
     all_goals
      repeat' (first|(refine AG ?_;go_step)|fail)
      by_cases hE0:E=0
      case neg=>
       have hD1:Jj (D=(E,acc)):=⟨by rw [HV.out,hstep.out,if_pos hE0];simp⟩
       have HS1:=AD (show FN C1 S1 C2 S2 l n Ev=(E,[]) by rw [HP3.out,hD1.out,if_neg hE0])
       clear HV hstep hD1
       repeat' (first
        | refine X0 ?_|refine X3 ?_|refine AG ?_;go_step|fail)
       all_goals (try exact AW)
       refine AM (xs:=[_,_]) rfl (.cons (AC.tmp rfl) (.cons (AC.tmp rfl) (.nil))) (by simp) rfl ?_
       exact EQ E (by rw [HS1.out]) (by rw [HS1.out]) hS.1
      have hD2:Fy C1 S1 C2 S2 l ((Bc n Ev).drop k) k=((Fy C1 S1 C2 S2 l ((Bc n Ev).drop (k+1)) (k+1)).1,(if k=0 then [] else [255,((208+(k-1)%8:Nat):Int)])++(B++(Fy C1 S1 C2 S2 l ((Bc n Ev).drop (k+1)) (k+1)).2)):=by rw [hstep.out,if_neg (by simpa using hE0)]
      have HV2:Jj (D=((Fy C1 S1 C2 S2 l ((Bc n Ev).drop (k+1)) (k+1)).1,(acc1++B)++(Fy C1 S1 C2 S2 l ((Bc n Ev).drop (k+1)) (k+1)).2)):=⟨by rw [HV.out,hD2,←HA1.out,List.append_assoc,List.append_assoc]⟩
      clear HV hstep hD2
      subst hE0
      repeat' (first
       | refine X1 ?_|refine X3 ?_|refine AG ?_;go_step|fail)
      all_goals (try exact AW)
      repeat' (first
       | refine X0 ?_|refine X7 ?_|refine bg 85 ?_;clear hS;intro ad85 c85 w hS|refine AG ?_;go_step|fail)
      go_roundg (gk-1)
      case measure=>omega
      case rel=>exact ⟨k+1,_,acc1++B,_,_,by omega,by go_num,rfl,by omega,AD (by rw [List.length_append,HL1.out,HMB.out]),HV2,hS.sub AV⟩
    obtain ⟨r,hr⟩:∃r,208+(k-1)%8=r:=⟨_,rfl⟩
    have HR:=AD hr
    obtain ⟨acc1,hA1⟩:∃a,acc++(if k=0 then [] else [255,((208+(k-1)%8:Nat):Int)])=a:=⟨_,rfl⟩
    have hA2:acc++[255,(r:Int)]=acc1:=by rw [←hA1,if_neg hk0,hr]
    have HA1:=AD hA1
    have HL1:=AD (show acc1.length=m+2 by rw [←hA2,List.length_append,HQ.out];rfl)
    clear hA1
    repeat' (first
     | (refine AS 64 ?_);(refine Ak (.int _ (((k-1:Nat):Int))) (V.as (V.subI rfl rfl (by omega)) (by omega)) (by kernel_rfl) ?_;go_step)|(refine AS 65 ?_);refine AN (f:=74) Tryz.call74 AA ?_;refine ⟨_,(KA _ (k-1) (by omega)),?_⟩;rintro e w ⟨rfl,hE2⟩;rw [HR.out];replace hS:=hS.ext hE2;clear hE2;refine Ae ?_;go_step|refine X0 ?_|refine X2 ?_|refine WU 58 ?_|refine Gv ?_|(with_reducible refine An _ (.convert 3 5 _) ?_);(refine As AA (V.convI (by rw [Tryz.underlying3];rfl) Tryz.underlying5 rfl (IntWalk.u8_in _ (by omega))) ?_;go_step)|refine WL ?_|refine cS 16 ?_;clear hS;intro g16 w hS|refine WC ?_;clear hS;intro w hS|refine V6 67 ?_;clear hS;intro g67 w hS|refine bg 68 ?_;clear hS;intro ad68 c68 w hS|refine AG ?_;go_step|fail)
    all_goals (try exact AW)
    replace hS:St w0 w [own 5 1 ad68 (m+2) c68 ((acc++[255,(r:Int)]).map (Value.int .u8)),blk g16 [.int .i64 (f:Nat), .int .i64 (t:Nat)],prt g3 [.ints C1, .val (.slice a1 n1 k1), .ints C2, .val (.slice a2 n2 k2)],own 94 2 (some ⟨g5,0,none⟩) M c3 ((P7 (Bc n Ev)).map (Value.int .i64))]:=by
     have h9:St w0 w (_::_::blk g16 [.int .i64 (f:Nat), .int .i64 (t:Nat)]::_):=hS
     exact h9.sub AV
    rw [hA2] at hS
    clear hA2
    refine AQ [7] (fun w=>St w0 w [prt g3 [.ints C1, .val (.slice a1 n1 k1), .ints C2, .val (.slice a2 n2 k2)],blk g16 [.int .i64 (f:Nat), .int .i64 (t:Nat)]]) AA ?_
    replace hS:=hS.drew
    focus
     refine br 0 [7,8,9,10,11,12] ?_
     refine Ab 1 ?_
     refine Bf 2 BU (V.fieldAddr MX rfl BO) ?_;go_step
     refine Y7 3 [6,7,8,9,10,11,12] ?_
     refine Bf 4 BU (V.fieldAddr MY rfl BO) ?_;go_step
     refine Y7 5 [6,7,8,9,10,11,12] ?_
     refine cu 6 ?_
     refine Aa 7 ?_
     refine Af (f:=75) rfl Tryz.call75 (GT _ C1 C2 S1 S2 a1 a2 n1 n2 k1 k2 hC1 hC2 (hs1.ext hS.1) (hs2.ext hS.1) hn1 hn2 (cutAt ad c f 64) (t-f) (c-f) (BB l f t) (by omega) (hcc.ext hS.1)) ?_;rintro e w ⟨ap,cp,mp,hmp,rfl,hS2⟩;rw [HB.out] at hS2;rw [HB.out,HMB.out] at hmp;subst hmp;rw [HE.out];replace hS:=hS.call1 hS2;clear hS2;refine ⟨_,rfl,?_⟩
     refine ⟨fun h=>absurd (by decide) h,?_⟩
     refine AF ?_
     go_step
     refine Ab 8 ?_
     refine Y4 9 ?_
     refine Y4 10 ?_
     refine Ab 11 ?_
     refine Ab 12 ?_
     refine AE AA ?_ _
    all_goals
     repeat' (first|(refine AG ?_;go_step)|fail)
     by_cases hE0:E=0
     case neg=>
      have hD1:Jj (D=(E,acc)):=⟨by rw [HV.out,hstep.out,if_pos hE0];simp⟩
      have HS1:=AD (show FN C1 S1 C2 S2 l n Ev=(E,[]) by rw [HP3.out,hD1.out,if_neg hE0])
      clear HV hstep hD1
      repeat' (first
       | refine X0 ?_|refine X3 ?_|refine AG ?_;go_step|fail)
      all_goals (try exact AW)
      refine AM (xs:=[_,_]) rfl (.cons (AC.tmp rfl) (.cons (AC.tmp rfl) (.nil))) (by simp) rfl ?_
      exact EQ E (by rw [HS1.out]) (by rw [HS1.out]) hS.1
     have hD2:Fy C1 S1 C2 S2 l ((Bc n Ev).drop k) k=((Fy C1 S1 C2 S2 l ((Bc n Ev).drop (k+1)) (k+1)).1,(if k=0 then [] else [255,((208+(k-1)%8:Nat):Int)])++(B++(Fy C1 S1 C2 S2 l ((Bc n Ev).drop (k+1)) (k+1)).2)):=by rw [hstep.out,if_neg (by simpa using hE0)]
     have HV2:Jj (D=((Fy C1 S1 C2 S2 l ((Bc n Ev).drop (k+1)) (k+1)).1,(acc1++B)++(Fy C1 S1 C2 S2 l ((Bc n Ev).drop (k+1)) (k+1)).2)):=⟨by rw [HV.out,hD2,←HA1.out,List.append_assoc,List.append_assoc]⟩
     clear HV hstep hD2
     subst hE0
     repeat' (first
      | refine X1 ?_|refine X3 ?_|refine AG ?_;go_step|fail)
     all_goals (try exact AW)
     repeat' (first
      | refine X0 ?_|refine X7 ?_|refine bg 85 ?_;clear hS;intro ad85 c85 w hS|refine AG ?_;go_step|fail)
     go_roundg (gk-1)
     case measure=>omega
     case rel=>exact ⟨k+1,_,acc1++B,_,_,by omega,by go_num,rfl,by omega,AD (by rw [List.length_append,HL1.out,HMB.out]),HV2,hS.sub AV⟩
   obtain rfl:k=M:=by omega
   have hD0:Jj (D=(0,acc)):=⟨by rw [HV.out,List.drop_of_length_le (by rw [HM.out];omega),Fy,List.append_nil]⟩
   have HS1:=AD (show FN C1 S1 C2 S2 l n Ev=(0,acc) by rw [HP3.out,hD0.out,if_pos rfl])
   clear HV
   repeat' (first
    | refine X0 ?_|refine X2 ?_|refine AG ?_;go_step|fail)
   all_goals (try exact AW)
   repeat' (first
    | refine AG ?_;go_step|fail)
   refine AM (xs:=[_,_]) rfl (.cons (AC.tmp rfl) (.cons (AC.tmp rfl) (.nil))) (by simp) rfl ?_
   exact ⟨ao,co,m,by rw [HS1.out];exact HQ.out,by rw [HS1.out];rfl,by rw [HS1.out];exact hS.sub AV⟩
theorem Uy{l:List Int}{q k:Nat}(h:k<q):Bm (l.take (q*64)) 64 k=Bm l 64 k:=by
 unfold Bm
 rw [List.drop_take,List.take_take,Nat.min_eq_left (by omega)]
theorem Qf{A X:List Int}{s:Nat}(h:s<256):AK (Cl A) s+AK (Cl X) s=AK (Cl (A++X)) s:=by
 rw [Dq _ h,Dq _ h,Dq _ h,List.count_append];push_cast;rfl
theorem Ef{W w w':World}{rs:List Au}{r s:Au}(h:St W w rs)(h':St w w' [r,s]):St W w' (r::s::rs):=h.call h'
end Go.Proofs.YtohacgmhmbijmaaGreatDoor
namespace Go.Proofs.YtohacgmhmbijmaaGreatDoor
attribute [local irreducible] Region.wanted
set_option linter.unusedVariables false
set_option maxRecDepth 100000
set_option maxHeartbeats 8000000
section
variable{α:Type}[Inhabited α]
def Ao(l:List α)(i:Nat):α:=l.getD i default
theorem ML(l:List α)(i j:Nat)(z:α)(h:i<l.length):Ao (l.set i z) j=if i=j then z else Ao l j:=by
 unfold Ao
 simp only [List.getD_eq_getElem?_getD,List.getElem?_set]
 split
 ·simp
 rfl
theorem Bz(l m:List α)(i:Nat)(h:i<l.length):Ao (l++m) i=Ao l i:=by simp [Ao,List.getElem?_append_left h]
theorem BE(l m:List α)(i:Nat)(h:l.length≤i):Ao (l++m) i=Ao m (i-l.length):=by simp [Ao,List.getElem?_append_right h]
theorem Ws{l:List α}{i:Nat}(h:i<l.length):Ao l i∈l:=by simp [Ao,h]
theorem PV{l:List α}{x:α}(h:x∈l):∃i,i<l.length∧Ao l i=x:=by
 obtain ⟨i,hi,e⟩:=List.getElem_of_mem h
 exact ⟨i,hi,by simp [Ao,hi,e]⟩
theorem JQ{l m:List α}(h:l.length=m.length)(k:∀i,i<l.length→Ao l i=Ao m i):l=m:=by
 apply List.ext_getElem h
 intro i h1 h2
 have:=k i h1
 simpa [Ao,h1,h2] using this
theorem Cp(l:List α)(n i:Nat)(h:i<n):Ao (l.take n) i=Ao l i:=by simp [Ao,h]
theorem Co(l:List α)(n i:Nat):Ao (l.drop n) i=Ao l (n+i):=by simp [Ao]
structure Rg(a b:Nat)(P P':List α):Prop where
 len:P'.length=P.length
 out:∀x,x<a∨b≤x→Ao P' x=Ao P x
 perm:((P'.drop a).take (b-a)).Perm ((P.drop a).take (b-a))
theorem Rg.refl(a b:Nat)(P:List α):Rg a b P P:=⟨rfl,fun _ _=>rfl,List.Perm.refl _⟩
theorem Rg.trans{a b:Nat}{P Q R:List α}(h:Rg a b P Q)(k:Rg a b Q R):Rg a b P R:=
 ⟨k.len.trans h.len,fun x hx=>(k.out x hx).trans (h.out x hx),k.perm.trans h.perm⟩
theorem Rg.from{a b:Nat}{P P':List α}(h:Rg a b P P')(hb:b≤P.length){x:Nat}(h1:a≤x)(h2:x<b):∃y,a≤y∧y<b∧Ao P' x=Ao P y:=by
 have hl:=h.len
 have e:Ao P' x=Ao ((P'.drop a).take (b-a)) (x-a):=by rw [Cp _ _ _ (by omega),Co];congr 1;omega
 have hm:Ao P' x∈(P'.drop a).take (b-a):=by rw [e];exact Ws (by simp;omega)
 obtain ⟨i,hi,e2⟩:=PV (h.perm.mem_iff.1 hm)
 simp at hi
 exact ⟨a+i,by omega,by omega,by rw [←e2,Cp _ _ _ (by omega),Co]⟩
theorem Rg.wide{a b c d:Nat}{P P':List α}(h:Rg a b P P')(hca:c≤a)(hbd:b≤d)(hab:a≤b)(hd:b≤P.length):Rg c d P P':=by
 refine ⟨h.len,fun x hx=>h.out x (by omega),?_⟩
 have cut:∀Q:List α,(Q.drop c).take (d-c)=(Q.drop c).take (a-c)++((Q.drop a).take (b-a)++(Q.drop b).take (d-b)):=fun Q=>by
  have e1:d-c=(a-c)+((b-a)+(d-b)):=by omega
  rw [e1,List.take_add,List.take_add,List.drop_drop,List.drop_drop]
  congr 4<;>omega
 have hl:=h.len
 rw [cut,cut]
 have e1:(P'.drop c).take (a-c)=(P.drop c).take (a-c):=JQ (by simp [hl]) fun i hi=>by
  simp at hi;rw [Cp _ _ _ (by omega),Cp _ _ _ (by omega),Co,Co,h.out _ (by omega)]
 have e2:(P'.drop b).take (d-b)=(P.drop b).take (d-b):=JQ (by simp [hl]) fun i hi=>by
  simp at hi;rw [Cp _ _ _ (by omega),Cp _ _ _ (by omega),Co,Co,h.out _ (by omega)]
 rw [e1,e2]
 exact List.Perm.append_left _ (List.Perm.append_right _ h.perm)
theorem Rg.all{P P':List α}(h:Rg 0 P.length P P'):P'.Perm P:=by
 have:=h.perm
 simp only [List.drop_zero,Nat.sub_zero,List.take_length] at this
 rwa [←h.len,List.take_length] at this
def PA(P:List α)(i j:Nat):List α:=(P.set i (Ao P j)).set j (Ao P i)
theorem GB(P:List α)(i j:Nat):(PA P i j).length=P.length:=by simp [PA]
theorem Fx(P:List α)(i j x:Nat)(hi:i<P.length)(hj:j<P.length):Ao (PA P i j) x=if j=x then Ao P i else if i=x then Ao P j else Ao P x:=by
 unfold PA
 rw [ML _ _ _ _ (by simpa using hj),ML _ _ _ _ hi]
theorem Of(l:List α)(i:Nat)(z:α)(h:i<l.length):(Ao l i::l.set i z).Perm (z::l):=by
 induction l generalizing i with
 | nil=>simp at h
 | cons a l ih=>
   cases i with
   | zero=>simp only [Ao,List.getD_cons_zero,List.set_cons_zero];exact List.Perm.swap _ _ _
   | succ i=>
     have:=ih i (by simpa using h)
     simp only [List.set_cons_succ]
     have e:Ao (a::l) (i+1)=Ao l i:=by simp [Ao]
     rw [e]
     exact (List.Perm.swap _ _ _).trans ((this.cons a).trans (List.Perm.swap _ _ _))
theorem VH(P:List α)(i j:Nat)(hi:i<P.length)(hj:j<P.length):(PA P i j).Perm P:=by
 unfold PA
 have h1:=Of (P.set i (Ao P j)) j (Ao P i) (by simpa using hj)
 have h2:=Of P i (Ao P j) hi
 rw [ML _ _ _ _ hi] at h1
 have e:(if i=j then Ao P j else Ao P j)=Ao P j:=by split<;>rfl
 rw [e] at h1
 exact (h1.trans h2).cons_inv
theorem Mv(P:List α)(a b i j:Nat)(hi:a≤i)(hib:i<b)(hj:a≤j)(hjb:j<b)(hb:b≤P.length):Rg a b P (PA P i j):=by
 refine ⟨GB P i j,fun x hx=>by rw [Fx _ _ _ _ (by omega) (by omega),if_neg (by omega),if_neg (by omega)],?_⟩
 have e:((PA P i j).drop a).take (b-a)=PA ((P.drop a).take (b-a)) (i-a) (j-a):=by
  refine JQ (by simp [GB]) fun x hx=>?_
  simp [GB] at hx
  rw [Cp _ _ _ (by omega),Co,Fx _ _ _ _ (by omega) (by omega),Fx _ _ _ _ (by simp;omega) (by simp;omega),Cp _ _ (i-a) (by omega),Cp _ _ (j-a) (by omega),Cp _ _ x (by omega),Co,Co,Co]
  rw [show a+(i-a)=i by omega,show a+(j-a)=j by omega]
  by_cases h1:j=a+x
  ·rw [if_pos h1,if_pos (show j-a=x by omega)]
  rw [if_neg h1,if_neg (show ¬j-a=x by omega)]
  by_cases h2:i=a+x
  ·rw [if_pos h2,if_pos (show i-a=x by omega)]
  rw [if_neg h2,if_neg (show ¬i-a=x by omega)]
 rw [e]
 exact VH _ _ _ (by simp;omega) (by simp;omega)
variable(key:α→Int)
def Dl(lo hi:Nat)(P:List α):Prop:=∀i j,lo≤i→i≤j→j<hi→key (Ao P i)≤key (Ao P j)
variable{key}
theorem Dl.same{lo hi:Nat}{P Q:List α}(h:Dl key lo hi P)(e:∀x,lo≤x→x<hi→Ao Q x=Ao P x):Dl key lo hi Q:=fun i j h1 h2 h3=>by
 rw [e i h1 (by omega),e j (by omega) h3];exact h i j h1 h2 h3
theorem Dl.sub{lo hi lo' hi':Nat}{P:List α}(h:Dl key lo hi P)(h1:lo≤lo')(h2:hi'≤hi):Dl key lo' hi' P:=fun i j k1 k2 k3=>h i j (by omega) k2 (by omega)
theorem Dl.pair{P:List α}(h:Dl key 0 P.length P):P.Pairwise (fun a b=>key a≤key b):=by
 rw [List.pairwise_iff_getElem]
 intro i j hi hj hij
 have:=h i j (by omega) (by omega) hj
 simpa [Ao,hi,hj] using this
theorem Un(A U V B:List α)(x:Nat):Ao (A++(V++(U++B))) x=if x<A.length then Ao (A++(U++(V++B))) x else if x<A.length+V.length then Ao (A++(U++(V++B))) (x+U.length) else if x<A.length+V.length+U.length then Ao (A++(U++(V++B))) (x-V.length) else Ao (A++(U++(V++B))) x:=by
 by_cases h1:x<A.length
 ·rw [if_pos h1,Bz _ _ _ h1,Bz _ _ _ h1]
 rw [if_neg h1,BE _ _ _ (by omega)]
 by_cases h2:x<A.length+V.length
 ·rw [if_pos h2,Bz _ _ _ (by omega),BE A _ _ (by omega),BE U _ _ (by omega),Bz V _ _ (by omega)];congr 1;omega
 rw [if_neg h2,BE _ _ _ (by omega)]
 by_cases h3:x<A.length+V.length+U.length
 ·rw [if_pos h3,Bz _ _ _ (by omega),BE A _ _ (by omega),Bz U _ _ (by omega)];congr 1;omega
 rw [if_neg h3,BE U _ _ (by omega),BE A _ _ (by omega),BE U _ _ (by omega),BE V _ _ (by omega)];congr 1;omega
def NL(a m b:Nat)(P P':List α):Prop:=∃A U V B,P=A++(U++(V++B))∧P'=A++(V++(U++B))∧A.length=a∧U.length=m-a∧V.length=b-m
theorem NL.rg{a m b:Nat}{P P':List α}(h:NL a m b P P')(h1:a≤m)(h2:m≤b):Rg a b P P':=by
 obtain ⟨A,U,V,B,rfl,rfl,rfl,hu,hv⟩:=h
 refine ⟨by simp;omega,fun x hx=>?_,?_⟩
 ·rw [Un]
  rcases hx with hx|hx
  ·rw [if_pos hx]
  rw [if_neg (by omega),if_neg (by omega),if_neg (by omega)]
 rw [List.drop_left' rfl,List.drop_left' rfl,←List.append_assoc,←List.append_assoc,List.take_left' (by simp;omega),List.take_left' (by simp;omega)]
 exact List.perm_append_comm
theorem NL.at{a m b:Nat}{P P':List α}(h:NL a m b P P')(h1:a≤m)(h2:m≤b)(x:Nat):Ao P' x=if x<a then Ao P x else if x<a+(b-m) then Ao P (x+(m-a)) else if x<b then Ao P (x-(b-m)) else Ao P x:=by
 obtain ⟨A,U,V,B,rfl,rfl,rfl,hu,hv⟩:=h
 rw [Un,hu,hv]
 rw [show A.length+(b-m)+(m-A.length)=b by omega]
theorem NL.triv{β:Type}{a m b:Nat}{P:List β}(h1:a≤m)(h2:m≤b)(hb:b≤P.length)(h:m=a∨m=b):NL a m b P P:=by
 refine ⟨P.take a,(P.drop a).take (m-a),(P.drop m).take (b-m),P.drop b,?_,?_,by simp;omega,by simp;omega,by simp;omega⟩
 ·have e1:(P.drop m).take (b-m)++P.drop b=P.drop m:=by
   have:=List.take_append_drop (b-m) (P.drop m)
   rw [List.drop_drop,show m+(b-m)=b by omega] at this;exact this
  have e2:(P.drop a).take (m-a)++P.drop m=P.drop a:=by
   have:=List.take_append_drop (m-a) (P.drop a)
   rw [List.drop_drop,show a+(m-a)=m by omega] at this;exact this
  rw [e1,e2,List.take_append_drop]
 rcases h with rfl|rfl
 ·rw [Nat.sub_self,List.take_zero,List.nil_append]
  have e1:(P.drop m).take (b-m)++P.drop b=P.drop m:=by
   have:=List.take_append_drop (b-m) (P.drop m)
   rw [List.drop_drop,show m+(b-m)=b by omega] at this;exact this
  rw [e1,List.take_append_drop]
 rw [Nat.sub_self,List.take_zero,List.nil_append]
 have e2:(P.drop a).take (m-a)++P.drop m=P.drop a:=by
  have:=List.take_append_drop (m-a) (P.drop a)
  rw [List.drop_drop,show a+(m-a)=m by omega] at this;exact this
 rw [e2,List.take_append_drop]
theorem GC{a m b mid st en:Nat}{P Q:List α}(h1:Dl key a m P)(h2:Dl key m b P)(ham:a<m)(hmb:m<b)(hmid:mid=(a+b)/2)(hen:en=mid+m-st)(hs1:a≤st)(hs2:st≤m)(hs3:st≤mid)(he1:m≤en)(he2:en≤b)
 (hlo:a<st→m≤en→en<b→key (Ao P (st-1))≤key (Ao P en)) (hhi:m<en→st<m→key (Ao P (en-1))≤key (Ao P st)) (hr:NL st m en P Q):
 Dl key a st Q∧Dl key st mid Q∧Dl key mid en Q∧Dl key en b Q∧∀x y,a≤x→x<mid→mid≤y→y<b→key (Ao Q x)≤key (Ao Q y):=by
 have ha:=hr.at hs2 he1
 have em:st+(en-m)=mid:=by omega
 rw [em] at ha
 have hA:∀x,x<st→Ao Q x=Ao P x:=fun x h=>by rw [ha,if_pos h]
 have hB:∀x,st≤x→x<mid→Ao Q x=Ao P (x+(m-st)):=fun x h h'=>by rw [ha,if_neg (by omega),if_pos h']
 have hC:∀x,mid≤x→x<en→Ao Q x=Ao P (x-(en-m)):=fun x h h'=>by rw [ha,if_neg (by omega),if_neg (by omega),if_pos h']
 have hD:∀x,en≤x→Ao Q x=Ao P x:=fun x h=>by rw [ha,if_neg (by omega),if_neg (by omega),if_neg (by omega)]
 clear ha hr
 refine ⟨h1.sub (Nat.le_refl _) hs2 |>.same fun x _ hx=>hA x hx,?_,?_,h2.sub he1 (Nat.le_refl _) |>.same fun x hx _=>hD x hx,?_⟩
 ·intro i j k1 k2 k3
  rw [hB i k1 (by omega),hB j (by omega) k3]
  exact h2 _ _ (by omega) (by omega) (by omega)
 ·intro i j k1 k2 k3
  rw [hC i k1 (by omega),hC j (by omega) k3]
  exact h1 _ _ (by omega) (by omega) (by omega)
 intro x y k1 k2 k3 k4
 by_cases c1:x<st
 ·rw [hA x c1]
  by_cases c2:y<en
  ·rw [hC y k3 c2];exact h1 _ _ (by omega) (by omega) (by omega)
  rw [hD y (by omega)]
  have t1:=h1 x (st-1) k1 (by omega) (by omega)
  have t2:=hlo (by omega) he1 (by omega)
  have t3:=h2 en y he1 (by omega) k4
  omega
 rw [hB x (by omega) k2]
 by_cases c2:y<en
 ·rw [hC y k3 c2]
  have t1:=h2 (x+(m-st)) (en-1) (by omega) (by omega) (by omega)
  have t2:=hhi (by omega) (by omega)
  have t3:=h1 st (y-(en-m)) hs1 (by omega) (by omega)
  omega
 rw [hD y (by omega)];exact h2 _ _ (by omega) (by omega) (by omega)
theorem Bh{a mid b:Nat}{Q R S:List α}(h1:a≤mid)(h2:mid≤b)(hb:b≤Q.length)(hx:∀x y,a≤x→x<mid→mid≤y→y<b→key (Ao Q x)≤key (Ao Q y))(r1:Rg a mid Q R)(r2:Rg mid b R S)(s1:Dl key a mid R)(s2:Dl key mid b S):Dl key a b S∧Rg a b Q S:=by
 refine ⟨fun i j k1 k2 k3=>?_,(r1.wide (Nat.le_refl _) h2 h1 (by omega)).trans (r2.wide h1 (Nat.le_refl _) h2 (by rw [r1.len];omega))⟩
 by_cases c1:j<mid
 ·rw [r2.out i (by omega),r2.out j (by omega)];exact s1 i j k1 k2 c1
 by_cases c2:i<mid
 ·obtain ⟨x,x1,x2,ex⟩:=r1.from (by omega) k1 c2
  obtain ⟨y,y1,y2,ey⟩:=r2.from (by rw [r1.len];omega) (show mid≤j by omega) k3
  rw [r2.out i (by omega),ex,ey,r1.out y (by omega)]
  exact hx x y x1 x2 y1 y2
 exact s2 i j (by omega) k2 k3
theorem W9{lo i p:Nat}{P Q:List α}(h1:Dl key lo i P)(hp1:lo≤p)(hp2:p≤i)(e1:∀x,x<p→Ao Q x=Ao P x)(e2:Ao Q p=Ao P i)(e3:∀x,p<x→x≤i→Ao Q x=Ao P (x-1))
 (hlo:lo<p→key (Ao P (p-1))≤key (Ao P i)) (hhi:p<i→key (Ao P i)≤key (Ao P p)):Dl key lo (i+1) Q:=by
 intro x y k1 k2 k3
 by_cases c1:x<p
 ·rw [e1 x c1]
  by_cases c2:y<p
  ·rw [e1 y c2];exact h1 x y k1 k2 (by omega)
  by_cases c3:y=p
  ·rw [c3,e2];have:=h1 x (p-1) k1 (by omega) (by omega);have:=hlo (by omega);omega
  rw [e3 y (by omega) (by omega)];exact h1 x (y-1) k1 (by omega) (by omega)
 by_cases c2:x=p
 ·rw [c2,e2]
  by_cases c3:y=p
  ·rw [c3,e2];exact Int.le_refl _
  rw [e3 y (by omega) (by omega)]
  have:=h1 p (y-1) (by omega) (by omega) (by omega);have:=hhi (by omega);omega
 rw [e3 x (by omega) (by omega),e3 y (by omega) (by omega)]
 exact h1 (x-1) (y-1) (by omega) (by omega) (by omega)
end
section
variable{α:Type}[Inhabited α]{key:α→Int}
structure Dn(i j:Nat)(P Q:List α):Prop where
 len:Q.length=P.length
 lo:∀x,x<j→Ao Q x=Ao P x
 eq:Ao Q j=Ao P i
 mid:∀x,j<x→x≤i→Ao Q x=Ao P (x-1)
 hi:∀x,i<x→Ao Q x=Ao P x
theorem Dn.refl(i:Nat)(P:List α):Dn i i P P:=⟨rfl,fun _ _=>rfl,rfl,fun x h1 h2=>by omega,fun _ _=>rfl⟩
theorem Dn.step{i j:Nat}{P Q:List α}(h:Dn i j P Q)(h1:0<j)(h2:j≤i)(h3:i<P.length):Dn i (j-1) P (PA Q j (j-1)):=by
 have hl:=h.len
 have e:=fun x=>Fx Q j (j-1) x (by omega) (by omega)
 refine ⟨by rw [GB,hl],fun x hx=>?_,?_,fun x k1 k2=>?_,fun x hx=>?_⟩
 ·rw [e,if_neg (by omega),if_neg (by omega),h.lo x (by omega)]
 ·rw [e,if_pos rfl,h.eq]
 ·rw [e,if_neg (by omega)]
  by_cases c:j=x
  ·rw [if_pos c,h.lo _ (by omega),c]
  rw [if_neg c,h.mid x (by omega) k2]
 rw [e,if_neg (by omega),if_neg (by omega),h.hi x hx]
theorem Dn.asc{lo i p:Nat}{P Q:List α}(h:Dn i p P Q)(h1:Dl key lo i P)(hp1:lo≤p)(hp2:p≤i)(hlo:lo<p→key (Ao P (p-1))≤key (Ao P i))(hhi:p<i→key (Ao P i)≤key (Ao P p)):Dl key lo (i+1) Q:=
 W9 h1 hp1 hp2 h.lo h.eq h.mid hlo hhi
structure Vz(a k:Nat)(P Q:List α):Prop where
 len:Q.length=P.length
 lo:∀x,x<a→Ao Q x=Ao P x
 mid:∀x,a≤x→x<k→Ao Q x=Ao P (x+1)
 eq:Ao Q k=Ao P a
 hi:∀x,k<x→Ao Q x=Ao P x
theorem Vz.refl(i:Nat)(P:List α):Vz i i P P:=⟨rfl,fun _ _=>rfl,fun x h1 h2=>by omega,rfl,fun _ _=>rfl⟩
theorem Vz.step{a k:Nat}{P Q:List α}(h:Vz a k P Q)(h1:a≤k)(h3:k+1<P.length):Vz a (k+1) P (PA Q k (k+1)):=by
 have hl:=h.len
 have e:=fun x=>Fx Q k (k+1) x (by omega) (by omega)
 refine ⟨by rw [GB,hl],fun x hx=>?_,fun x k1 k2=>?_,?_,fun x hx=>?_⟩
 ·rw [e,if_neg (by omega),if_neg (by omega),h.lo x hx]
 ·rw [e,if_neg (by omega)]
  by_cases c:k=x
  ·rw [if_pos c,h.hi _ (by omega),c]
  rw [if_neg c,h.mid x k1 (by omega)]
 ·rw [e,if_pos rfl,h.eq]
 rw [e,if_neg (by omega),if_neg (by omega),h.hi x (by omega)]
theorem Vz.asc{a p b:Nat}{P Q:List α}(h:Vz a p P Q)(h1:Dl key (a+1) b P)(hp1:a≤p)(hp2:p<b)(hlo:a<p→key (Ao P p)≤key (Ao P a))(hhi:p+1<b→key (Ao P a)≤key (Ao P (p+1))):Dl key a b Q:=by
 intro x y k1 k2 k3
 by_cases c1:x<p
 ·rw [h.mid x k1 c1]
  by_cases c2:y<p
  ·rw [h.mid y (by omega) c2];exact h1 _ _ (by omega) (by omega) (by omega)
  by_cases c3:y=p
  ·rw [c3,h.eq];have:=h1 (x+1) p (by omega) (by omega) (by omega);have:=hlo (by omega);omega
  rw [h.hi y (by omega)];exact h1 _ _ (by omega) (by omega) (by omega)
 by_cases c2:x=p
 ·rw [c2,h.eq]
  by_cases c3:y=p
  ·rw [c3,h.eq];exact Int.le_refl _
  rw [h.hi y (by omega)]
  have:=hhi (by omega);have:=h1 (p+1) y (by omega) (by omega) (by omega);omega
 rw [h.hi x (by omega),h.hi y (by omega)];exact h1 _ _ (by omega) (by omega) (by omega)
structure QO(a b t:Nat)(P Q:List α):Prop where
 len:Q.length=P.length
 one:∀x,a≤x→x<a+t→Ao Q x=Ao P (x-a+b)
 two:∀x,b≤x→x<b+t→Ao Q x=Ao P (x-b+a)
 out:∀x,(x<a∨a+t≤x)→(x<b∨b+t≤x)→Ao Q x=Ao P x
theorem QO.refl(a b:Nat)(P:List α):QO a b 0 P P:=⟨rfl,fun x h1 h2=>by omega,fun x h1 h2=>by omega,fun _ _ _=>rfl⟩
theorem QO.step{a b t:Nat}{P Q:List α}(h:QO a b t P Q)(h1:a+t<b)(h2:b+t<P.length):QO a b (t+1) P (PA Q (a+t) (b+t)):=by
 have hl:=h.len
 have e:=fun x=>Fx Q (a+t) (b+t) x (by omega) (by omega)
 refine ⟨by rw [GB,hl],fun x k1 k2=>?_,fun x k1 k2=>?_,fun x k1 k2=>?_⟩
 ·rw [e,if_neg (by omega)]
  by_cases c:a+t=x
  ·rw [if_pos c,h.out _ (by omega) (by omega)];congr 1;omega
  rw [if_neg c,h.one x k1 (by omega)]
 ·rw [e]
  by_cases c:b+t=x
  ·rw [if_pos c,h.out _ (by omega) (by omega)];congr 1;omega
  rw [if_neg c,if_neg (by omega),h.two x k1 (by omega)]
 rw [e,if_neg (by omega),if_neg (by omega),h.out x (by omega) (by omega)]
theorem QO.blocks{A U C V B Q:List α}{n:Nat}(hu:U.length=n)(hv:V.length=n)(h:QO A.length (A.length+n+C.length) n (A++(U++(C++(V++B)))) Q):Q=A++(V++(C++(U++B))):=by
 have hl:=h.len
 refine JQ (by rw [hl];simp;omega) fun x hx=>?_
 rw [hl] at hx
 simp at hx
 by_cases c1:x<A.length
 ·rw [h.out x (by omega) (by omega),Bz _ _ _ c1,Bz _ _ _ c1]
 rw [BE A (V++(C++(U++B))) _ (by omega)]
 by_cases c2:x<A.length+n
 ·rw [h.one x (by omega) c2,Bz V _ _ (by omega),BE A _ _ (by omega),BE U _ _ (by omega),BE C _ _ (by omega),Bz V _ _ (by omega)];congr 1;omega
 rw [BE V (C++(U++B)) _ (by omega)]
 by_cases c3:x<A.length+n+C.length
 ·rw [h.out x (by omega) (by omega),Bz C (U++B) _ (by omega),BE A _ _ (by omega),BE U _ _ (by omega),Bz C _ _ (by omega)];congr 1;omega
 rw [BE C (U++B) _ (by omega)]
 by_cases c4:x<A.length+n+C.length+n
 ·rw [h.two x (by omega) c4,Bz U B _ (by omega),BE A _ _ (by omega),Bz U _ _ (by omega)];congr 1;omega
 rw [h.out x (by omega) (by omega),BE U B _ (by omega),BE A _ _ (by omega),BE U _ _ (by omega),BE C _ _ (by omega),BE V _ _ (by omega)];congr 1;omega
theorem NL.left{A U V B Q:List α}{i j:Nat}(hu:U.length=i)(hv:V.length=j)(hij:j≤i)(h:QO A.length (A.length+i) j (A++(U++(V++B))) Q):
 ∃U1 U2,U=U1++U2∧U1.length=j∧U2.length=i-j∧Q=(A++V)++(U2++(U1++B))∧A++(V++(U++B))=(A++V)++(U1++(U2++B)):=by
 have e:U=U.take j++U.drop j:=(List.take_append_drop _ _).symm
 refine ⟨U.take j,U.drop j,e,by simp;omega,by simp;omega,?_,?_⟩
 ·rw [e,List.append_assoc] at h
  have:=QO.blocks (A:=A) (U:=U.take j) (C:=U.drop j) (V:=V) (B:=B) (n:=j) (Q:=Q) (by simp;omega) hv (by
   rw [show A.length+j+(U.drop j).length=A.length+i by simp;omega];exact h)
  rw [this,List.append_assoc]
 conv=>lhs;rw [e]
 simp only [List.append_assoc]
theorem NL.right{A U V B Q:List α}{i j:Nat}(hu:U.length=i)(hv:V.length=j)(hij:i≤j)(h:QO A.length (A.length+j) i (A++(U++(V++B))) Q):
 ∃V1 V2,V=V1++V2∧V1.length=j-i∧V2.length=i∧Q=A++(V2++(V1++(U++B)))∧A++(V++(U++B))=A++(V1++(V2++(U++B))):=by
 have e:V=V.take (j-i)++V.drop (j-i):=(List.take_append_drop _ _).symm
 refine ⟨V.take (j-i),V.drop (j-i),e,by simp;omega,by simp;omega,?_,?_⟩
 ·rw [e,List.append_assoc] at h
  have:=QO.blocks (A:=A) (U:=U) (C:=V.take (j-i)) (V:=V.drop (j-i)) (B:=B) (n:=i) (Q:=Q) hu (by simp;omega) (by
   rw [show A.length+i+(V.take (j-i)).length=A.length+j by simp;omega];exact h)
  exact this
 conv=>lhs;rw [e]
 simp only [List.append_assoc]
end
end Go.Proofs.YtohacgmhmbijmaaGreatDoor
namespace Go.Proofs.YtohacgmhmbijmaaGreatDoor
attribute [local irreducible] Region.wanted
open Go.RowKit
set_option linter.unusedVariables false
set_option maxRecDepth 100000
set_option maxHeartbeats 8000000
theorem D6{α:Type}(enc:α→List Value)(m:Nat)(he:∀x,(enc x).length=m)(l:List α):(l.flatMap enc).length=l.length*m:=by
 induction l with
 | nil=>simp
 | cons x l ih=>rw [List.flatMap_cons,List.length_append,ih,he,List.length_cons,Nat.add_mul,Nat.one_mul,Nat.add_comm]
theorem FB(w:World)(g:Nat)(t:TypeId)(A B D:List Value):∀(vs B A:List Value)(w:World)(cur:Array Value),w.heap[g]? =some (.cells cur t)→cur.toList=A++(B++D)→B.length=vs.length→∃cur':Array Value,(w.setCells g A.length vs).heap[g]? =some (.cells cur' t)∧cur'.toList=A++(vs++D)∧EK [g] w (w.setCells g A.length vs)
 | [],[],A,w,cur,h,e,_=>⟨cur,h,e,⟨rfl,rfl,rfl,Nat.le_refl _,fun _ _ _=>rfl⟩⟩
 | [],_::_,A,w,cur,h,e,hl=>by simp at hl
 | _::_,[],A,w,cur,h,e,hl=>by simp at hl
 | v::vs,b::B,A,w,cur,h,e,hl=>by
   have h1:=heap_setCell_same w g A.length cur t v h
   have e1:(cur.setIfInBounds A.length v).toList=(A++[v])++(B++D):=by
    rw [Array.toList_setIfInBounds,e];simp
   obtain ⟨cur',h2,h3,h4⟩:=FB w g t A B D vs B (A++[v]) _ _ h1 e1 (by simpa using hl)
   have e2:w.setCells g A.length (v::vs)=(w.setCell ⟨g,A.length,none⟩ v).setCells g (A++[v]).length vs:=by
    rw [World.setCells,List.length_append];rfl
   rw [e2]
   have h5:=EK.setCell w ⟨g,A.length,none⟩ v
   exact ⟨cur',h2,by rw [h3];simp,⟨h4.os.trans h5.os,h4.tape.trans h5.tape,h4.output.trans h5.output,Nat.le_trans h5.size h4.size,fun k hk hm=>(h4.block k (Nat.lt_of_lt_of_le hk h5.size) hm).trans (h5.block k hk hm)⟩⟩
section
variable{α:Type}[Inhabited α]
theorem MQ(enc:α→List Value)(m:Nat)(he:∀x,(enc x).length=m):∀(l:List α)(j:Nat),j<l.length→((l.flatMap enc).drop (j*m)).take m=enc (Ao l j)
 | [],j,h=>by simp at h
 | x::l,0,h=>by rw [Nat.zero_mul,List.drop_zero,List.flatMap_cons,List.take_left' (he x)];simp [Ao]
 | x::l,j+1,h=>by
   rw [List.flatMap_cons,Nat.add_mul,Nat.one_mul,Nat.add_comm,←List.drop_drop,List.drop_left' (he x),MQ enc m he l j (by simpa using h)]
   simp [Ao]
theorem N8(enc:α→List Value)(m:Nat)(he:∀x,(enc x).length=m)(z:α):∀(l:List α)(j:Nat),j<l.length→∃A B,l.flatMap enc=A++(enc (Ao l j)++B)∧(l.set j z).flatMap enc=A++(enc z++B)∧A.length=j*m
 | [],j,h=>by simp at h
 | x::l,0,h=>⟨[],l.flatMap enc,by simp [Ao],by simp,by simp⟩
 | x::l,j+1,h=>by
   obtain ⟨A,B,e1,e2,e3⟩:=N8 enc m he z l j (by simpa using h)
   refine ⟨enc x++A,B,?_,?_,?_⟩
   ·rw [List.flatMap_cons,e1,List.append_assoc];simp [Ao]
   ·rw [List.set_cons_succ,List.flatMap_cons,e2,List.append_assoc]
   rw [List.length_append,he,e3,Nat.add_mul,Nat.one_mul,Nat.add_comm]
end
section
variable{α:Type}{P:Program}{W w:World}{rs rs':List Au}{Q:Exit→Act→World→Prop}{K:Act→World→Prop}{o:Oper}{a:Act}
theorem EB{e:TypeId}{n c m:Nat}{ad:Option Addr}{enc:α→List Value}{l:List α}(hS:St W w rs)(hp:AT (own e m ad n c (l.flatMap enc)) rs rs')(he:∀x,(enc x).length=m)(hm:0<m):l.length=n:=by
 have:=(hS.own hp).1
 rw [D6 enc m he] at this
 exact Nat.eq_of_mul_eq_mul_right hm this
theorem O1(hS:St W w rs)(ty:TypeId)(x:Operand)(ho:o.op= .load ty x)(g q:Nat)(hx:a.eval x= .pointer (some ⟨g,q,none⟩))(m:Nat)(h1:EW P ty m)(e:TypeId)(n c:Nat)(l:List α)(enc:α→List Value)(hp:AT (own e m (some ⟨g,0,none⟩) n c (l.flatMap enc)) rs rs')
 (inst:Inhabited α) (he:∀x,(enc x).length=m) (j:Nat) (hq:q=j*m) (hj:j<n) (h:K (a.put o.dst (.agg (enc (Ao l j)).toArray)) w):o.wp P a w K Q:=by
 subst hq
 have hl:=(hS.own hp).1
 rw [D6 enc m he] at hl
 refine EH ty x ho g _ hx m h1 (enc (Ao l j)) (he _) ?_ h
 have:=Lj (off:=j*m) (m:=m) hS hp
 rcases Nat.eq_zero_or_pos m with h0|h0
 ·have e0:enc (Ao l j)=[]:=List.eq_nil_of_length_eq_zero (by rw [he,h0])
  rw [e0];intro i v hv;simp at hv
 have hln:l.length=n:=Nat.eq_of_mul_eq_mul_right h0 hl
 rwa [MQ enc m he l j (by omega)] at this
theorem L6(hS:St W w rs)(ty:TypeId)(x:Operand)(ho:o.op= .load ty x)(g q:Nat)(hx:a.eval x= .pointer (some ⟨g,q,none⟩))(h1:K4 P ty)(e:TypeId)(m n c:Nat)(l:List α)(enc:α→List Value)(hp:AT (own e m (some ⟨g,0,none⟩) n c (l.flatMap enc)) rs rs')
 (inst:Inhabited α) (he:∀x,(enc x).length=m) (j f:Nat) (hq:q=j*m+f) (hj:j<n) (v:Value) (hv:(enc (Ao l j))[f]? =some v) (h:K (a.put o.dst v) w):o.wp P a w K Q:=by
 subst hq
 have hf:f<m:=by rw [←he (Ao l j)];exact (List.getElem?_eq_some_iff.1 hv).1
 have hl:=EB hS hp he (by omega)
 refine Ai hS ty x ho g _ hx h1 e m n c _ hp v ?_ h
 have:=MQ enc m he l j (by omega)
 rw [←this,List.getElem?_take,if_pos hf,List.getElem?_drop] at hv
 exact hv
theorem QK(hS:St W w rs)(ty:TypeId)(x:Operand)(ho:o.op= .load ty x)(g q:Nat)(hx:a.eval x= .pointer (some ⟨g,q,none⟩))(h1:K4 P ty)(e:TypeId)(m n c:Nat)(l:List α)(enc:α→List Value)(hp:AT (own e m (some ⟨g,0,none⟩) n c (l.flatMap enc)) rs rs')
 (inst:Inhabited α) (he:∀x,(enc x).length=m) (j:Nat) (hq:q=j*m) (hj:j<n) (v:Value) (hv:(enc (Ao l j))[0]? =some v) (h:K (a.put o.dst v) w):o.wp P a w K Q:=
 L6 hS ty x ho g q hx h1 e m n c l enc hp inst he j 0 hq hj v hv h
theorem S7(hS:St W w rs)(ty:TypeId)(x y:Operand)(ho:o.op= .store ty x y)(g q:Nat)(hx:a.eval x= .pointer (some ⟨g,q,none⟩))(m:Nat)(h1:EW P ty m)(e:TypeId)(n c:Nat)(l:List α)(enc:α→List Value)(hp:AT (own e m (some ⟨g,0,none⟩) n c (l.flatMap enc)) rs rs')
 (inst:Inhabited α) (he:∀x,(enc x).length=m) (hone:∀x,(enc x).all (·.oneCell')=true) (j:Nat) (hq:q=j*m) (hj:j<n) (z:α) (hy:a.eval y= .agg (enc z).toArray) (hd:o.dst=none) (h:∀w',St W w' (own e m (some ⟨g,0,none⟩) n c ((l.set j z).flatMap enc)::rs')→K a w'):o.wp P a w K Q:=by
 subst hq
 have hown:=hS.own hp
 have hlen:=hown.1
 rw [D6 enc m he] at hlen
 rcases hown.2 with ⟨h2,_⟩|⟨g',cap,cur,h2,hb,hg,hn,hc,hsz,htake⟩
 ·cases h2
 cases h2
 have hln:m=0∨l.length=n:=by
  rcases Nat.eq_zero_or_pos m with h0|h0
  ·exact .inl h0
  exact .inr (Nat.eq_of_mul_eq_mul_right h0 hlen)
 have hjm:j*m+m≤n*m:=by have:=Nat.mul_le_mul_right m hj;rwa [Nat.succ_mul] at this
 have hcm:n*m≤c*m:=Nat.mul_le_mul_right m hn
 refine wp_store_mid ty x y ho g (j*m) (enc z).toArray hx hy ?_ (by rw [h1.2];simp [he]) (by simpa using hone z) ?_
 ·intro i hi
  rw [List.size_toArray,he] at hi
  refine ⟨?_,frozen_of_row w g _ cur e hg⟩
  have:=Fc hS hp (k:=j*m+i) (v:=(l.flatMap enc)[j*m+i]'(by rw [D6 enc m he];omega)) (by rw [List.getElem?_eq_getElem])
  rw [this];rfl
 rw [show a.put o.dst undef=a by rw [hd];rfl]
 refine h _ ?_
 refine St.change (rs1:=[own e m (some ⟨g,0,none⟩) n c ((l.set j z).flatMap enc)]) (hS.pull hp) fun f1 k1 _ _=>?_
 obtain ⟨rfl,_⟩:=k1
 rcases hln with h0|hln
 ·have e0:∀y,enc y=[]:=fun y=>List.eq_nil_of_length_eq_zero (by rw [he,h0])
  have e1:∀l:List α,l.flatMap enc=[]:=fun l=>List.eq_nil_of_length_eq_zero (by rw [D6 enc m he,h0,Nat.mul_zero])
  rw [e0,e1]
  refine ⟨[g],⟨[g],[],rfl,⟨rfl,by simp [h0], .inr ⟨g,c,cur,rfl,hb,hg,hn,hc,hsz,by rw [h0];simp⟩⟩,rfl⟩,by simp,fun b hb=> .inl hb,⟨rfl,rfl,rfl,Nat.le_refl _,fun _ _ _=>rfl⟩⟩
 obtain ⟨A,B,e1,e2,e3⟩:=N8 enc m he z l j (by omega)
 have ecur:cur.toList=A++(enc (Ao l j)++(B++cur.toList.drop (n*m))):=by
  conv=>lhs;rw [←List.take_append_drop (n*m) cur.toList,htake,e1]
  simp
 obtain ⟨cur',k2,k3,k4⟩:=FB w g e [] [] (B++cur.toList.drop (n*m)) (enc z) (enc (Ao l j)) A w cur hg ecur (by rw [he,he])
 rw [←e3]
 have hAB:(A++(enc z++B)).length=n*m:=by rw [←e2,D6 enc m he,List.length_set,hln]
 refine ⟨[g],⟨[g],[],rfl,⟨rfl,by rw [D6 enc m he,List.length_set,hln], .inr ⟨g,c,cur',rfl,hb,k2,hn,hc,?_,?_⟩⟩,rfl⟩,by simp,fun b hb=> .inl hb,k4⟩
 ·have a1:=congrArg List.length k3
  have a2:=congrArg List.length ecur
  simp only [List.length_append,Array.length_toList,he] at a1 a2
  omega
 have a3:cur'.toList=(A++(enc z++B))++cur.toList.drop (n*m):=by rw [k3];simp
 rw [a3,List.take_left' hAB,e2]
end
structure DN where
 w:Int
 ad:Option Addr
 n:Nat
 c:Nat
instance:Inhabited DN:=⟨⟨0,none,0,0⟩⟩
def LJ(p:DN):List Value:=[.int .i64 p.w, .slice p.ad p.n p.c]
theorem Ct:∀p,(LJ p).length=2:=fun _=>rfl
theorem Mg:∀p,(LJ p).all (·.oneCell')=true:=fun _=>rfl
end Go.Proofs.YtohacgmhmbijmaaGreatDoor
