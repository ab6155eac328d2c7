/- What the laws DeskFront DeskErrors DeskSet need, part 10. -/
import Derived.Test.YtngojkompmcceaaGreatDoorBaseDZ1
import Derived.Test.YtngojkompmcceaaGreatDoorBaseDZ2
import Derived.Test.YtngojkompmcceaaGreatDoorBaseDZ9
import Derived.Test.YtngojkompmcceaaGreatDoorRows
import Derived.MakeChecks
import Derived.ChangeBears2
import Derived.ProofKit
import Derived.OpenShut
import Derived.ChangeOld
import Derived.Deep.Slices
namespace Go.Proofs.YtngojkompmcceaaGreatDoor
attribute [local irreducible] Region.wanted
open Go.RowKit
set_option linter.unusedVariables false
set_option maxRecDepth 100000
set_option maxHeartbeats 8000000
def DK(g:Nat)(D:Dk):Ak:=prt g [.ints D.b, .ints D.q]
def Pe(l:List Int)(n:Nat):Prop:=∀i,i<n→ -9223372036854775808≤AG l i∧AG l i≤9223372036854775807
def NS(ad:Option Addr)(n c:Nat)(ns:List Int):Ak:=own 3 1 ad n c (ns.map (Value.int .i64))
structure CX(W w:World)(rs:List Ak)(g:Nat)(D:Dk)(ns:List Int)(ad:Option Addr)(n c:Nat):Prop where
 s:St W w (DK g D::NS ad n c ns::rs)
 ok:D.ok
 ln:n≤1000
 r:Pe ns n
 L:CM W
def CY(W:World)(g:Nat)(r:(ByteArray×Int)×Dk)(rs:List Ak)(e:Ending)(w:World):Prop:=e= .returned (.tuple #[.string r.1.1, .int .i64 r.1.2])∧St W w (DK g r.2::rs)
theorem Ay{W w:World}{g n c:Nat}{ad:Option Addr}{ns b q:List Int}{a:ByteArray}{er:Int}{rs:List Ak}(h:St W w (prt g [.ints b, .ints q]::own 3 1 ad n c (ns.map (Value.int .i64))::rs)):CY W g ((a,er),⟨b,q⟩) (NS ad n c ns::rs) (.returned (.tuple #[.string a, .int .i64 er])) w:=⟨rfl,h⟩
theorem M8{W w:World}{rs:List Ak}{g:Nat}{D:Dk}{ns:List Int}{ad:Option Addr}{n c:Nat}(h:CX W w rs g D ns ad n c)(hn:n=2):Calls Tryz.prog 17 #[.pointer (some ⟨g,0,none⟩), .slice ad n c] w (CY W g (EL D ns) (NS ad n c ns::rs)):=by
 subst hn
 have hS:=h.s
 unfold DK NS at hS
 have hb:=h.ok.b
 have hq:=h.ok.q
 have hr0:=h.r 0 (by omega)
 have hr1:=h.r 1 (by omega)
 obtain ⟨b,q⟩:=D
 dsimp only at hb hq hS
 obtain ⟨F,hF⟩:∃F,EL ⟨b,q⟩ ns=F:=⟨_,rfl⟩
 rw [hF]
 unfold EL at hF
 have HF:=AC hF
 obtain ⟨x0,rfl⟩:=Bb (a:=ad) hS AQ (by omega)
 clear h hF
 by_cases h1:AG ns 0<0∨63<AG ns 0
 ·have hFe:F=((nl,5),⟨b,q⟩):=by rw [←HF.out,if_pos h1]
  subst hFe
  go_enter Tryz.func17,Tryz.ntmps17
  repeat' (first
   | go_skip|((first|(with_reducible refine Gj ?_)|(with_reducible refine MT ?_));(first|go_big_want|go_step);go_step)|((with_reducible refine Ap _ (.pick _ _ _) ?_);first|(refine Al rfl AA ?_;go_step)|(refine Af rfl AA ?_;go_step))|((refine AH 10 ?_);(refine BX _ (V.lss rfl rfl) AA (fun hB=>?_) (fun hB=>?_)<;>(try exact AU)<;>go_step))|((refine AH 8 ?_);(refine AR AA (V.indexSl Tryz.underlying46 Bg rfl rfl (show Au 0 0 from rfl) (by omega) (show 0*1=0 from rfl) Bj) ?_;go_step))|((refine AH 13 ?_);(refine AR AA (V.indexSl Tryz.underlying46 Bg rfl rfl (show Au 0 0 from rfl) (by omega) (show 0*1=0 from rfl) Bj) ?_;go_step))|((with_reducible refine Ap _ (.binOp .gtr _ _ _ _) ?_);(refine AR AA (V.gtr rfl rfl) ?_;go_step))|((with_reducible refine Ap _ (.load 3 _) ?_);(refine At ?_;apply DO hS 3 _ rfl _ _ rfl (Ai rfl) _ _ _ _ _;(case hp=>exact AQ);(case hi=>omega);refine AB ?_;go_step))|(refine AF ?_;go_step)|fail)
  all_goals (try exact AU)
  all_goals
   refine AJ (xs:=[_,_]) rfl (.cons (AD.tmp rfl) (.cons (AD.tmp rfl) (.nil))) (by simp) rfl ?_
   exact Ay (hS.sub Ad)
 by_cases h2:AG ns 1< -40000∨40000<AG ns 1
 ·have hFe:F=((nl,1),⟨b,q⟩):=by rw [←HF.out,if_neg h1,if_pos h2]
  subst hFe
  go_enter Tryz.func17,Tryz.ntmps17
  repeat' (first
   | go_skip|((first|(with_reducible refine Gj ?_)|(with_reducible refine MT ?_));(first|go_big_want|go_step);go_step)|((with_reducible refine Ap _ (.pick _ _ _) ?_);first|(refine Al rfl AA ?_;go_step)|(refine Af rfl AA ?_;go_step))|((refine AH 10 ?_);(refine BX _ (V.lss rfl rfl) AA (fun hB=>?_) (fun hB=>?_)<;>(try exact AU)<;>go_step))|((refine AH 21 ?_);(refine BX _ (V.lss rfl rfl) AA (fun hB=>?_) (fun hB=>?_)<;>(try exact AU)<;>go_step))|((refine AH 8 ?_);(refine AR AA (V.indexSl Tryz.underlying46 Bg rfl rfl (show Au 0 0 from rfl) (by omega) (show 0*1=0 from rfl) Bj) ?_;go_step))|((refine AH 13 ?_);(refine AR AA (V.indexSl Tryz.underlying46 Bg rfl rfl (show Au 0 0 from rfl) (by omega) (show 0*1=0 from rfl) Bj) ?_;go_step))|((with_reducible refine Ap _ (.binOp .gtr _ _ _ _) ?_);(refine AR AA (V.gtr rfl rfl) ?_;go_step))|((refine AH 19 ?_);(refine AR AA (V.indexSl Tryz.underlying46 Bg rfl rfl (show Au 1 1 from rfl) (by omega) (show 1*1=1 from rfl) Bj) ?_;go_step))|((refine AH 24 ?_);(refine AR AA (V.indexSl Tryz.underlying46 Bg rfl rfl (show Au 1 1 from rfl) (by omega) (show 1*1=1 from rfl) Bj) ?_;go_step))|((with_reducible refine Ap _ (.load 3 _) ?_);(refine At ?_;apply DO hS 3 _ rfl _ _ rfl (Ai rfl) _ _ _ _ _;(case hp=>exact AQ);(case hi=>omega);refine AB ?_;go_step))|(refine AF ?_;go_step)|fail)
  all_goals (try exact AU)
  all_goals
   refine AJ (xs:=[_,_]) rfl (.cons (AD.tmp rfl) (.cons (AD.tmp rfl) (.nil))) (by simp) rfl ?_
   exact Ay (hS.sub Ad)
 have hFe:F=((Jp,0),⟨b.set (AG ns 0).toNat (AG ns 1),q⟩):=by rw [←HF.out,if_neg h1,if_neg h2]
 subst hFe
 obtain ⟨k,hk⟩:∃k:Nat,AG ns 0=(k:Int):=⟨(AG ns 0).toNat,by omega⟩
 have hkt:(AG ns 0).toNat=k:=by omega
 have hk64:k<64:=by omega
 have HK:=AC hk
 go_enter Tryz.func17,Tryz.ntmps17
 repeat' (first
  | refine X0 ?_|refine Jo ?_|refine X6 10 ?_ ?_<;>intro hB<;>(try exact AU)<;>go_step|refine X6 21 ?_ ?_<;>intro hB<;>(try exact AU)<;>go_step|refine RE 8 ?_|refine RE 13 ?_|refine Gg ?_|(refine AH 19 ?_);(refine AR AA (V.indexSl Tryz.underlying46 Bg rfl rfl (show Au 1 1 from rfl) (by omega) (show 1*1=1 from rfl) Bj) ?_;go_step)|(refine AH 24 ?_);(refine AR AA (V.indexSl Tryz.underlying46 Bg rfl rfl (show Au 1 1 from rfl) (by omega) (show 1*1=1 from rfl) Bj) ?_;go_step)|refine RW ?_|refine AF ?_;go_step|fail)
 all_goals (try exact AU)
 refine AW [10] (fun w=>St W w [prt g [.ints b, .ints q],own 3 1 (some ⟨x0,0,none⟩) 2 c (ns.map (Value.int .i64))]) AA ?_
 replace hS:=hS.drew
 focus
  refine Ah 0 ?_
  refine Ah 1 ?_
  refine DT 2 Cj (V.indexSl Tryz.underlying46 Bg rfl rfl (show Au 0 0 from rfl) (by omega) (show 0*1=0 from rfl) Bj) ?_;go_step
  refine Y6 3 [9,10] ?_
  refine Ah 4 ?_
  refine DT 5 Cj (V.indexSl Tryz.underlying46 Bg rfl rfl (show Au 1 1 from rfl) (by omega) (show 1*1=1 from rfl) Bj) ?_;go_step
  refine Y6 6 [9,10] ?_
  refine DT 7 Cj (V.nilCheck rfl) ?_;go_step
  refine DT 8 Cj (V.fieldAddr Fw rfl Bj) ?_;go_step
  refine Y7 9 ?_
  refine CS 10 ?_
  (refine ES hS 3 _ _ rfl _ _ rfl (Ai rfl) _ _ AQ _ (by rfl) (by (repeat (first|(apply DX.head;(case hn=>exact Gi);(case h=>omega))|(apply DX.skipI;(case hn=>exact Gi);(case h=>omega);(case ho=>rfl))|apply DX.skipV))) rfl ?_;clear hS;intro w hS)
  refine ⟨fun h=>absurd (by decide) h,?_⟩
  refine AM AA ?_ _
 all_goals
  repeat' (first|(refine AF ?_;go_step)|fail)
  repeat' (first
   | refine X8 ?_|refine AF ?_;go_step|fail)
  refine AJ (xs:=[_,_]) rfl (.cons (AD.tmp rfl) (.cons (AD.tmp rfl) (.nil))) (by simp) rfl ?_
  exact Ay (hS.sub Ad)
theorem Hd(n:Int)(i:Nat)(h:i<64):(List.replicate i n++List.replicate (64-i) 0).set i n=List.replicate (i+1) n++List.replicate (64-(i+1)) 0:=by
 obtain ⟨j,hj⟩:∃j,64-i=j+1:=⟨64-i-1,by omega⟩
 rw [hj,show 64-(i+1)=j by omega,List.set_append_right _ _ (by simp),List.length_replicate,Nat.sub_self,List.replicate_succ,List.set_cons_zero,List.replicate_succ',List.append_assoc]
 rfl
theorem I9{W w:World}{rs:List Ak}{g:Nat}{D:Dk}{ns:List Int}{ad:Option Addr}{n c:Nat}(h:CX W w rs g D ns ad n c)(hn:n=1):Calls Tryz.prog 18 #[.pointer (some ⟨g,0,none⟩), .slice ad n c] w (CY W g (BC D ns) (NS ad n c ns::rs)):=by
 subst hn
 have hS:=h.s
 unfold DK NS at hS
 have hb:=h.ok.b
 have hq:=h.ok.q
 have hr0:=h.r 0 (by omega)
 obtain ⟨b,q⟩:=D
 dsimp only at hb hq hS
 obtain ⟨x0,rfl⟩:=Bb (a:=ad) hS AQ (by omega)
 obtain ⟨v,hv⟩:∃v,AG ns 0=v:=⟨_,rfl⟩
 have HV:=AC hv
 obtain ⟨F,hF⟩:∃F,BC ⟨b,q⟩ ns=F:=⟨_,rfl⟩
 rw [hF]
 unfold BC at hF
 rw [hv] at hF hr0
 obtain ⟨Z,hZ⟩:∃Z,List.replicate 64 v=Z:=⟨_,rfl⟩
 have hzl:A4 Z 64:=hZ▸ A4.rep
 have hck:=fun w=>DJ w Z hzl
 rw [hZ] at hF
 obtain ⟨B,hB⟩:∃B,KC Z=B:=⟨_,rfl⟩
 rw [hB] at hF hck
 have HCK:=AC hck
 have HZ:=AC hZ
 have HF:=AC hF
 clear h hF hv hck hB hZ
 go_enter Tryz.func18,Tryz.ntmps18
 repeat' (first
  | refine X0 ?_|refine MR 6 ?_;clear hS;intro g6 w hS|refine AF ?_;go_step|fail)
 go_loopg [9] 64 (fun gk kv w=>∃i:Nat,gk+i=64∧kv= .int .i64 i∧St W w (arr g6 64 (List.replicate i v++List.replicate (64-i) 0)::prt g [.ints b, .ints q]::own 3 1 (some ⟨x0,0,none⟩) 1 c (ns.map (Value.int .i64))::rs))
 case atStart=>exact ⟨0,rfl,rfl,by rw [show List.replicate 0 v++List.replicate (64-0) (0:Int)=List.replicate 64 0 from rfl];exact hS.sub Ad⟩
 case round=>
  clear hS
  obtain ⟨i,hi,rfl,hS⟩:=hrel
  by_cases hlt:i<64
  ·have hfs:=Hd v i hlt
   obtain ⟨Y,hY⟩:∃Y,List.replicate i v++List.replicate (64-i) 0=Y:=⟨_,rfl⟩
   rw [hY] at hS hfs
   have HFS:=AC hfs
   clear hfs hY
   repeat' (first
    | refine X0 ?_|refine X2 ?_|refine RE 14 ?_|refine Rj 16 ?_|refine X4 ?_|refine RW ?_|refine R0 ?_;clear hS;intro w hS|refine AF ?_;go_step|fail)
   all_goals (try exact AU)
   go_roundg (gk-1)
   case measure=>omega
   case rel=>exact ⟨i+1,by omega,by go_num,by rw [←HFS.out,←HV.out];exact hS.sub Ad⟩
  obtain rfl:i=64:=by omega
  rw [show List.replicate 64 v++List.replicate (64-64) 0=Z by rw [←HZ.out];simp] at hS
  repeat' (first
   | refine X2 ?_|refine AF ?_;go_step|fail)
  all_goals (try exact AU)
  cases B with
  | true=>
    have hFe:F=((Jp,0),⟨b,Z⟩):=by rw [←HF.out];rfl
    subst hFe
    repeat' (first
     | (with_reducible refine Ap none _ ?_);refine At ?_;refine Ka hS 33 _ _ rfl g 64 rfl 64 (Aj rfl) [.ints b, .ints q] [.ints b, .ints Z] [.ints Z] AQ (LZ Z) (OE.skipI hb (by omega) rfl (OE.head (B:=[.ints q]) (D:=[]) (by simp [AE,AO.cells,hq.out,hzl.out]))) (by simp [AE,AO.cells,hzl.out]) rfl rfl ?_;clear hS;intro w hS|(refine Ar 38 ?_);refine As AA Tryz.call38 (HCK.out _) ?_;rintro e w ⟨rfl,hE⟩;replace hS:=hS.ext hE;clear hE;rw [if_pos rfl];refine A2 ?_;go_step|refine X0 ?_|refine LA ?_|refine QC ?_|(with_reducible refine Ap _ (.fieldAddr 35 _ 1) ?_);(refine AR AA (V.fieldAddr IU rfl Bj) ?_;go_step)|refine OG ?_|refine AF ?_;go_step|fail)
    all_goals (try exact AU)
    refine AJ (xs:=[_,_]) rfl (.cons (AD.tmp rfl) (.cons (AD.tmp rfl) (.nil))) (by simp) rfl ?_
    exact Ay (hS.sub Ad)
  | false=>
    have hFe:F=((nl,1),⟨b,q⟩):=by rw [←HF.out];rfl
    subst hFe
    repeat' (first
     | (refine Ar 38 ?_);refine As AA Tryz.call38 (HCK.out _) ?_;rintro e w ⟨rfl,hE⟩;replace hS:=hS.ext hE;clear hE;rw [if_neg (by decide)];refine A2 ?_;go_step|refine X0 ?_|refine LA ?_|refine OG ?_|refine AF ?_;go_step|fail)
    all_goals (try exact AU)
    refine AJ (xs:=[_,_]) rfl (.cons (AD.tmp rfl) (.cons (AD.tmp rfl) (.nil))) (by simp) rfl ?_
    exact Ay (hS.sub Ad)
theorem Qn{W w:World}{rs rs':List Ak}{g:Nat}{b q:List Int}(hS:St W w rs)(p:AL (prt g [.ints b, .ints q]) rs rs')(hb:A4 b 64):Sl w 1 (.slice (some ⟨g,0,none⟩) 8 64) 8 ((b.take 8).map (Value.int .i64)):=by
 refine ⟨by simp [hb.out],_,_,rfl,by decide,by decide, .inr ⟨g,0,rfl,fun k hk=>?_⟩⟩
 have hk8:k<8:=by omega
 rw [Nat.zero_add,(hS.blk p).1.cell]
 have e:AE [.ints b, .ints q]=b.map (Value.int .i64)++q.map (Value.int .i64):=by simp [AE,AO.cells]
 have e2:((b.take 8).map (Value.int .i64))[k]? =(b.map (Value.int .i64))[k]? :=by
  rw [List.getElem?_map,List.getElem?_map,List.getElem?_take,if_pos hk8]
 rw [e,e2]
 simp only [List.getElem?_toArray]
 rw [List.getElem?_append_left (by rw [List.length_map,hb.out];omega)]
theorem QT{b:List Int}(h:Bd 40000 b)(hb:A4 b 64):Pe (b.take 8) 8:=fun i hi=>by
 have h1:=h i (by rw [hb.out];omega)
 have:AG (b.take 8) i=AG b i:=by simp [AG,List.getD,hi]
 rw [this];omega
theorem LU{W w:World}{rs:List Ak}{g:Nat}{D:Dk}{ns:List Int}{ad:Option Addr}{n c:Nat}(h:CX W w rs g D ns ad n c):Calls Tryz.prog 19 #[.pointer (some ⟨g,0,none⟩), .slice ad n c] w (CY W g ((BN (D.b.take 8),0),D) (NS ad n c ns::rs)):=by
 have hS:=h.s
 unfold DK NS at hS
 have hb:=h.ok.b
 have hq:=h.ok.q
 have hr8:=h.ok.r
 have hL:=h.L
 obtain ⟨b,q⟩:=D
 dsimp only at hb hq hS hr8⊢
 have HR8:=AC (QT hr8 hb)
 clear h hr8
 go_enter Tryz.func19,Tryz.ntmps19
 repeat' (first
  | (refine AH 10 ?_);refine Ac (f:=39) Tryz.call39 AA ?_;refine ⟨_,(De _ (some ⟨g,0,none⟩) 8 64 (b.take 8) (Qn hS AQ hb) HR8.out (by decide) (hL.ext hS.1)),?_⟩;rintro e w ⟨rfl,hE⟩;replace hS:=hS.ext hE;clear hE;refine A2 ?_;go_step|refine X0 ?_|refine QC ?_|refine Q4 ?_|refine QE ?_|refine AF ?_;go_step|fail)
 refine AJ (xs:=[_,_]) rfl (.cons (AD.tmp rfl) (.cons (AD.tmp rfl) (.nil))) (by simp) rfl ?_
 exact Ay (hS.sub Ad)
theorem GW:∀(l:List Int)(r:Nat),(∀x∈l,-2047≤x∧x≤2047)→∀t∈KT r l,0≤t.1∧t.1<256
 | [],r,_,t,ht=>by
   unfold KT at ht
   split at ht
   ·simp at ht;subst ht;decide
   simp at ht
 | n::l,r,h,t,ht=>by
   unfold KT at ht
   split at ht
   ·exact GW l (r+1) (fun x hx=>h x (by simp [hx])) t ht
   rcases List.mem_append.1 ht with ht|ht
   ·rw [List.eq_of_mem_replicate ht];decide
   rcases List.mem_cons.1 ht with rfl|ht
   ·have h1:=O9 n (by have:=h n (by simp);omega)
    unfold KU
    dsimp only
    omega
   exact GW l 0 (fun x hx=>h x (by simp [hx])) t ht
theorem L8{p:Int}{x:List Int}(hx:x.length=64):∀t∈EP p x,0≤t.1∧t.1<256:=by
 intro t ht
 unfold EP at ht
 split at ht
 ·rename_i h
  obtain ⟨h1,h2⟩:=Kz hx h
  have hz:∀i,i<64→ -2047≤AG (FE x) i∧AG (FE x) i≤2047:=fun i hi=>by rw [Ir _ i hi];exact h2 _ (K7 i hi)
  unfold Cx at ht
  rcases List.mem_cons.1 ht with rfl|ht
  ·have:=hz 0 (by omega)
   have h3:=Ky (AG (FE x) 0-p) (by omega)
   unfold KU
   dsimp only
   omega
  refine GW _ 0 (fun y hy=>?_) t ht
  obtain ⟨i,hi,rfl⟩:=List.mem_iff_getElem.1 (List.mem_of_mem_drop hy)
  have:=hz i (by rw [←CR x];exact hi)
  simpa [AG,List.getD,hi] using this
 simp at ht
theorem Nt{p:Int}{x:List Int}(hx:x.length=64):(EP p x).length≤64:=by
 unfold EP
 split
 ·exact (Nu p (FE x) (CR x)).2
 simp
theorem JB{W w:World}{rs:List Ak}{g:Nat}{D:Dk}{ns:List Int}{ad:Option Addr}{n c:Nat}(h:CX W w rs g D ns ad n c):Calls Tryz.prog 20 #[.pointer (some ⟨g,0,none⟩), .slice ad n c] w (CY W g ((BN ((EP 0 D.b).map (·.1)),Eo 0 D.b),D) (NS ad n c ns::rs)):=by
 have hS:=h.s
 unfold DK NS at hS
 have hb:=h.ok.b
 have hq:=h.ok.q
 have hL:=h.L
 obtain ⟨b,q⟩:=D
 dsimp only at hb hq hS⊢
 have HTK:=AC fun (w:World)=>Il w 0 b hb
 have hm:(EP 0 b).length≤64:=Nt hb
 have hsy:=L8 (p:=0) hb
 obtain ⟨T,hT⟩:∃T,EP 0 b=T:=⟨_,rfl⟩
 obtain ⟨E,hE⟩:∃E,Eo 0 b=E:=⟨_,rfl⟩
 obtain ⟨m,hmm⟩:∃m,T.length=m:=⟨_,rfl⟩
 rw [hT,hE,hmm] at HTK
 rw [hT,hmm] at hm
 rw [hT] at hsy
 rw [hT,hE]
 have HM:=AC hmm
 have HSY:=AC hsy
 obtain ⟨Y,hY⟩:∃Y,T.map (·.1)=Y:=⟨_,rfl⟩
 rw [hY]
 have HY:=AC hY
 clear h hT hE hmm hsy hY
 go_enter Tryz.func20,Tryz.ntmps20
 repeat' (first
  | (refine Ar 40 ?_);refine As AA Tryz.call40 (HTK.out _) ?_;rintro e w ⟨a1,c1,rfl,hS2⟩;replace hS:=hS.call1 hS2;clear hS2;refine A2 ?_;go_step|refine X0 ?_|refine QC ?_|refine Q4 ?_|refine X9 ?_|(with_reducible refine Ap _ (.call ⟨.builtin .len,_,_⟩) ?_);(refine AR AA (V.len Tryz.underlying68 rfl) ?_;go_step)|refine RX ?_|refine AF ?_;go_step|fail)
 replace hS:=hS.nilk 3 1 .i64
 go_loopg [8,21] m (fun gk ov kv w=>∃(i:Nat) (ao:Option Addr) (co:Nat),gk+i=m∧ov= .slice ao i co∧kv= .int .i64 i∧St W w (own 3 1 ao i co (((T.take i).map (·.1)).map (Value.int .i64))::own 72 3 a1 m c1 ((Gh T).map (Value.int .i64))::prt g [.ints b, .ints q]::own 3 1 ad n c (ns.map (Value.int .i64))::rs))
 case atStart=>exact ⟨0,none,0,by omega,rfl,rfl,by rw [show (T.take 0).map (·.1)=([]:List Int) by rw [List.take_zero];rfl];exact hS.sub Ad⟩
 case round=>
  clear hS
  obtain ⟨i,ao,co,hi,rfl,rfl,hS⟩:=hrel
  by_cases hlt:i<m
  ·obtain ⟨b5,rfl⟩:=Bb (a:=a1) hS AQ (by omega)
   obtain ⟨⟨s,v,y⟩,hx⟩:∃x,T[i]? =some x:=⟨_,List.getElem?_eq_getElem (by rw [HM.out];exact hlt)⟩
   have hseg:=Kn T i _ hx
   have hsy:=HSY.out _ (List.mem_of_getElem? hx)
   dsimp only at hseg hsy
   have ht:(T.take (i+1)).map (·.1)=(T.take i).map (·.1)++[s]:=by rw [List.take_add_one,hx,List.map_append];rfl
   have HTK:=AC ht
   clear hx ht
   repeat' (first
    | refine X0 ?_|refine X2 ?_|(refine AH 23 ?_);(refine AR AA (V.indexSl Tryz.underlying68 Qi rfl rfl BY (by omega) rfl Bj) ?_;go_step)|(with_reducible refine Ap _ (.fieldAddr 72 _ 0) ?_);(refine AR AA (V.fieldAddr Pp rfl Bj) ?_;go_step)|refine X4 ?_|(with_reducible refine Ap _ (.load 72 _) ?_);(refine At ?_;apply Gc hS 72 _ rfl _ _ rfl 3 (Aj rfl) _ _ _ _ _;(case hp=>exact AQ);(case hi=>omega);(case hl'=>with_reducible assumption);refine AB ?_;go_step)|(refine AH 10 ?_);(refine At ?_;apply Cf (o:=⟨some 10,_,_,_,_,_⟩) hS 72 rfl (.agg #[.int .i64 0, .int .i64 0, .int .i64 0]) [.int .i64 0, .int .i64 0, .int .i64 0] (fun w=>Tryz.zeroValue72 w) rfl;clear hS;intro g10 w hS;refine AB ?_;go_step)|refine R4 ?_;clear hS;intro w hS|refine Q6 ?_|refine Qw 28 ?_;clear hS;intro g28 w hS|refine Qy 29 ?_;clear hS;intro ad29 c29 w hS|refine AF ?_;go_step|fail)
   all_goals (try exact AU)
   go_roundg (gk-1)
   case measure=>omega
   case rel=>exact ⟨i+1,_,_,by omega,rfl,by go_num,by rw [HTK.out];exact hS.sub Ad⟩
  obtain rfl:i=m:=by omega
  have htk:T.take i=T:=List.take_of_length_le (by rw [HM.out];exact Nat.le_refl _)
  rw [htk,HY.out] at hS
  have hYr:Pe Y i:=fun k hk=>by
   rw [←HY.out]
   have hkT:k<T.length:=by rw [HM.out];exact hk
   have e:AG (T.map (·.1)) k=T[k].1:=by simp [AG,List.getD,hkT]
   have:=HSY.out _ (List.getElem_mem hkT)
   rw [e];omega
  have HTL:=AC (De wr ao i co Y (hS.sl (a:=ao) (s:=1) AQ) hYr (by omega) (hL.ext hS.1))
  clear htk hYr
  repeat' (first
   | refine X1 ?_|refine X2 ?_|refine AF ?_;go_step|fail)
  all_goals (try exact AU)
  repeat' (first
   | (refine Ar 39 ?_);refine As AA Tryz.call39 (HTL.out) (C9 hS ?_);clear hS;intro w hS;go_step|refine X0 ?_|refine AF ?_;go_step|fail)
  refine AJ (xs:=[_,_]) rfl (.cons (AD.tmp rfl) (.cons (AD.tmp rfl) (.nil))) (by simp) rfl ?_
  exact Ay (hS.sub Ad)
structure QN(K:FuncId)(R:Dk→List Int)(E:Dk→Int):Prop where
 call:∀(args:Array Value)(w:World),(callFunc K args).run Tryz.prog w= .ok (.enter K args) w
 len:∀D:Dk,D.ok→A4 (R D) 64
 run:∀(W w:World)(rs:List Ak)(g:Nat)(D:Dk),St W w (DK g D::rs)→D.ok→Calls Tryz.prog K #[.pointer (some ⟨g,0,none⟩)] w fun e w'=>e= .returned (.tuple #[.agg (iv (R D)), .int .i64 (E D)])∧St W w' (DK g D::rs)
theorem IK{K:FuncId}{R:Dk→List Int}{E:Dk→Int}(hK:QN K R E){W w:World}{rs:List Ak}{g gb:Nat}{D:Dk}{ns:List Int}{ad:Option Addr}{n c:Nat}(h:CX W w (blk gb [.func (.func K) #[] #[]]::rs) g D ns ad n c):
 Calls Tryz.prog 41 #[.pointer (some ⟨g,0,none⟩), .slice ad n c, .pointer (some ⟨gb,0,none⟩)] w (CY W g (I5 D (R D) (E D)) (NS ad n c ns::blk gb [.func (.func K) #[] #[]]::rs)):=by
 have hS:=h.s
 have hR:=hK.len D h.ok
 have HK:=AC hK.call
 have HC:=AC fun (w:World)(rs:List Ak)(hS:St W w (DK g D::rs))=>hK.run W w rs g D hS h.ok
 have hb:=h.ok.b
 have hq:=h.ok.q
 obtain ⟨b,q⟩:=D
 obtain ⟨RR,hRR⟩:∃X,R ⟨b,q⟩=X:=⟨_,rfl⟩
 obtain ⟨EE,hEE⟩:∃X,E ⟨b,q⟩=X:=⟨_,rfl⟩
 rw [hRR,hEE] at HC⊢
 rw [hRR] at hR
 unfold DK NS at hS
 unfold DK at HC
 dsimp only at hb hq hS HC
 obtain ⟨F,hF⟩:∃F,I5 ⟨b,q⟩ RR EE=F:=⟨_,rfl⟩
 rw [hF]
 unfold I5 at hF
 have HF:=AC hF
 clear h hK hF hRR hEE
 by_cases hE:EE=0
 case neg=>
  have hFe:F=((nl,EE),⟨b,q⟩):=by rw [←HF.out,if_pos hE]
  subst hFe
  clear HF
  go_enter Tryz.func41,Tryz.ntmps41
  repeat' (first
   | (refine AH 14 ?_);refine At ?_;refine Bc (o:=⟨some 14,_,_,_,_,_⟩) (f:=K) rfl rfl HK.out (HC.out _ _ (hS.sub Ad)) ?_;clear hS;rintro e w ⟨rfl,hS⟩;refine A2 ?_;go_step|refine X0 ?_|refine X9 ?_|refine LA ?_|refine R7 ?_|refine MR 7 ?_;clear hS;intro g7 w hS|refine Ml ?_;clear hS;intro w hS|refine AF ?_;go_step|fail)
  all_goals (try exact AU)
  refine AJ (xs:=[_,_]) rfl (.cons (AD.tmp rfl) (.cons (AD.tmp rfl) (.nil))) (by simp) rfl ?_
  exact Ay (hS.sub Ad)
 subst hE
 have hFe:F=((Jp,0),⟨DE RR,q⟩):=by rw [←HF.out];rfl
 subst hFe
 clear HF
 go_enter Tryz.func41,Tryz.ntmps41
 repeat' (first
  | (refine AH 14 ?_);refine At ?_;refine Bc (o:=⟨some 14,_,_,_,_,_⟩) (f:=K) rfl rfl HK.out (HC.out _ _ (hS.sub Ad)) ?_;clear hS;rintro e w ⟨rfl,hS⟩;refine A2 ?_;go_step|refine X0 ?_|refine X9 ?_|refine LA ?_|refine R7 ?_|refine MR 7 ?_;clear hS;intro g7 w hS|refine Ml ?_;clear hS;intro w hS|refine AF ?_;go_step|fail)
 all_goals (try exact AU)
 repeat' (first
  | refine X1 ?_|refine OG ?_|refine AF ?_;go_step|fail)
 go_loopg [21] 64 (fun gk kv w=>∃(i:Nat) (X:List Int),gk+i=64∧kv= .int .i64 i∧A4 X 64∧(∀j,j<i→AG X j=min (max (AG RR j) (-40000)) 40000)∧St W w (prt g [.ints X, .ints q]::own 3 1 ad n c (ns.map (Value.int .i64))::blk gb [.func (.func K) #[] #[]]::rs))
 case atStart=>exact ⟨0,b,rfl,rfl,hb,fun j hj=>by omega,hS.sub Ad⟩
 case round=>
  clear hS
  obtain ⟨i,X,hi,rfl,hX,hXv,hS⟩:=hrel
  have HXV:=AC hXv
  clear hXv
  by_cases hlt:i<64
  ·repeat' (first
    | refine X0 ?_|refine X2 ?_|refine R9 24 ?_|refine AF ?_;go_step|fail)
   all_goals (try exact AU)
   refine AW [] (fun _=>True) AA ?_
   replace hS:=hS.drew
   focus
    refine Ah 0 ?_
    refine Ah 1 ?_
    refine Ah 2 ?_
    refine DT 4 Cj (V.nilCheck rfl) ?_;go_step
    refine DT 5 Cj (V.fieldAddr Fw rfl Bj) ?_;go_step
    refine CS 3 ?_
    refine BT (f:=42) rfl Tryz.call42 (EQ _ 40000 _ (by omega) (by omega)) ?_;rintro e w' ⟨rfl,rfl⟩;refine ⟨_,rfl,?_⟩
    refine SE ?_;go_step
    refine Y7 6 ?_
    refine CS 7 ?_
    (refine ES hS 3 _ _ rfl _ _ rfl (Ai rfl) _ _ AQ _ (by rfl) (by (repeat (first|(apply DX.head;(case hn=>exact Gi);(case h=>omega))|(apply DX.skipI;(case hn=>exact Gi);(case h=>omega);(case ho=>rfl))|apply DX.skipV))) rfl ?_;clear hS;intro w hS)
    refine ⟨fun _ h=>h,?_⟩
    refine AM AA ?_ _
   all_goals
    repeat' (first|(refine AF ?_;go_step)|fail)
    repeat' (first
     | refine X1 ?_|refine X4 ?_|refine AF ?_;go_step|fail)
    go_roundg (gk-1)
    case measure=>omega
    case rel=>
     refine ⟨i+1,_,by omega,by go_num,?_,?_,hS.sub Ad⟩
     ·exact A4.set hX
     intro j hj
     rw [Ef X i j _ (by rw [hX.out];exact hlt)]
     split
     ·rename_i e;subst e;rfl
     exact HXV.out j (by have h9:j<i+1:=hj;omega)
  obtain rfl:i=64:=by omega
  have hXe:X=DE RR:=JO (by rw [EF,hX.out,hR.out]) fun j hj=>by
   rw [hX.out] at hj
   rw [HXV.out j hj]
   have hjl:j<RR.length:=by rw [hR.out];exact hj
   simp [DE,AG,List.getD,hjl]
  subst hXe
  repeat' (first
   | refine X8 ?_|refine X2 ?_|refine AF ?_;go_step|fail)
  all_goals (try exact AU)
  repeat' (first
   | refine AF ?_;go_step|fail)
  refine AJ (xs:=[_,_]) rfl (.cons (AD.tmp rfl) (.cons (AD.tmp rfl) (.nil))) (by simp) rfl ?_
  exact Ay (hS.sub Ad)
theorem QV:QN 22 (fun D=>RL D.b) (fun D=>N5 D.b):=by
 refine ⟨Tryz.call22,fun D hD=>Cq _ _,fun W w rs g D hS hD=>?_⟩
 have hb:=hD.b
 have hq:=hD.q
 obtain ⟨b,q⟩:=D
 unfold DK at hS⊢
 dsimp only at hb hq hS⊢
 obtain ⟨RR,hRR⟩:∃X,RL b=X:=⟨_,rfl⟩
 have hRl:A4 RR 64:=hRR▸ Cq _ _
 have HC:=AC fun (w:World)=>PD w b hb
 rw [hRR] at HC⊢
 clear hRR hD
 go_enter Tryz.func22,Tryz.ntmps22
 repeat' (first
  | (refine Ar 23 ?_);refine As AA Tryz.call23 (HC.out _) (C9 hS ?_);clear hS;intro w hS;go_step|refine X0 ?_|refine QC ?_|refine Q4 ?_|refine X9 ?_|refine MR 2 ?_;clear hS;intro g2 w hS|refine RX ?_|refine Ml ?_;clear hS;intro w hS|refine AF ?_;go_step|fail)
 refine AJ (xs:=[_,_]) rfl (.cons (AD.arr hS rfl (Aj (n:=64) rfl) AQ) (.cons (AD.tmp rfl) (.nil))) (by simp) rfl ?_
 exact ⟨rfl,hS.sub Ad⟩
theorem QW:QN 24 (fun D=>K1 D.b) (fun D=>N5 D.b):=by
 refine ⟨Tryz.call24,fun D hD=>Cq _ _,fun W w rs g D hS hD=>?_⟩
 have hb:=hD.b
 have hq:=hD.q
 obtain ⟨b,q⟩:=D
 unfold DK at hS⊢
 dsimp only at hb hq hS⊢
 obtain ⟨RR,hRR⟩:∃X,K1 b=X:=⟨_,rfl⟩
 have hRl:A4 RR 64:=hRR▸ Cq _ _
 have HC:=AC fun (w:World)=>MA w b hb
 rw [hRR] at HC⊢
 clear hRR hD
 go_enter Tryz.func24,Tryz.ntmps24
 repeat' (first
  | (refine Ar 25 ?_);refine As AA Tryz.call25 (HC.out _) (C9 hS ?_);clear hS;intro w hS;go_step|refine X0 ?_|refine QC ?_|refine Q4 ?_|refine X9 ?_|refine MR 2 ?_;clear hS;intro g2 w hS|refine RX ?_|refine Ml ?_;clear hS;intro w hS|refine AF ?_;go_step|fail)
 refine AJ (xs:=[_,_]) rfl (.cons (AD.arr hS rfl (Aj (n:=64) rfl) AQ) (.cons (AD.tmp rfl) (.nil))) (by simp) rfl ?_
 exact ⟨rfl,hS.sub Ad⟩
theorem QX:QN 26 (fun D=>CF D.b D.q) (fun D=>EY D.b D.q):=by
 refine ⟨Tryz.call26,fun D hD=>C2 _ _ hD.b hD.q,fun W w rs g D hS hD=>?_⟩
 have hb:=hD.b
 have hq:=hD.q
 obtain ⟨b,q⟩:=D
 unfold DK at hS⊢
 dsimp only at hb hq hS⊢
 obtain ⟨RR,hRR⟩:∃X,CF b q=X:=⟨_,rfl⟩
 have hRl:A4 RR 64:=hRR▸ C2 _ _ hb hq
 have HC:=AC fun (w:World)=>M7 w b q hb hq
 rw [hRR] at HC⊢
 clear hRR hD
 go_enter Tryz.func26,Tryz.ntmps26
 repeat' (first
  | refine X8 ?_|refine MR 2 ?_;clear hS;intro g2 w hS|refine AF ?_;go_step|fail)
 refine AW [8,11] (fun w=>St W w [prt g [.ints b, .ints q]]) AA ?_
 replace hS:=hS.drew
 focus
  refine Ah 0 ?_
  refine DT 1 Cj (V.nilCheck rfl) ?_;go_step
  refine DT 2 Cj (V.fieldAddr Fw rfl Bj) ?_;go_step
  refine Y8 3 [8,9,10,11,12] ?_
  refine Ah 4 ?_
  refine DT 5 Cj (V.nilCheck rfl) ?_;go_step
  refine DT 6 Cj (V.fieldAddr IU rfl Bj) ?_;go_step
  refine Y8 7 [8,9,10,11,12] ?_
  refine CS 8 ?_
  refine BT (f:=27) rfl Tryz.call27 (HC.out _) ?_;rintro e w ⟨rfl,hE⟩;replace hS:=hS.ext hE;clear hE;refine ⟨_,rfl,?_⟩
  refine ⟨fun h=>absurd (by decide) h,?_⟩
  refine AK ?_
  go_step
  refine Y1 9 ?_
  refine Y1 10 ?_
  refine CS 11 ?_
  refine SA ?_;clear hS;intro w hS
  refine Ah 12 ?_
  refine AM AA ?_ _
 all_goals
  repeat' (first|(refine AF ?_;go_step)|fail)
  refine AJ (xs:=[_,_]) rfl (.cons (AD.arr hS rfl (Aj (n:=64) rfl) AQ) (.cons (AD.tmp rfl) (.nil))) (by simp) rfl ?_
  exact ⟨rfl,hS.sub Ad⟩
theorem QY:QN 28 (fun D=>It D.b D.q) (fun D=>MX D.b D.q):=by
 refine ⟨Tryz.call28,fun D hD=>Ep _ _ hD.b hD.q,fun W w rs g D hS hD=>?_⟩
 have hb:=hD.b
 have hq:=hD.q
 obtain ⟨b,q⟩:=D
 unfold DK at hS⊢
 dsimp only at hb hq hS⊢
 obtain ⟨RR,hRR⟩:∃X,It b q=X:=⟨_,rfl⟩
 have hRl:A4 RR 64:=hRR▸ Ep _ _ hb hq
 have HC:=AC fun (w:World)=>P0 w b q hb hq
 rw [hRR] at HC⊢
 clear hRR hD
 go_enter Tryz.func28,Tryz.ntmps28
 repeat' (first
  | refine X8 ?_|refine MR 2 ?_;clear hS;intro g2 w hS|refine AF ?_;go_step|fail)
 refine AW [8,11] (fun w=>St W w [prt g [.ints b, .ints q]]) AA ?_
 replace hS:=hS.drew
 focus
  refine Ah 0 ?_
  refine DT 1 Cj (V.nilCheck rfl) ?_;go_step
  refine DT 2 Cj (V.fieldAddr Fw rfl Bj) ?_;go_step
  refine Y8 3 [8,9,10,11,12] ?_
  refine Ah 4 ?_
  refine DT 5 Cj (V.nilCheck rfl) ?_;go_step
  refine DT 6 Cj (V.fieldAddr IU rfl Bj) ?_;go_step
  refine Y8 7 [8,9,10,11,12] ?_
  refine CS 8 ?_
  refine BT (f:=29) rfl Tryz.call29 (HC.out _) ?_;rintro e w ⟨rfl,hE⟩;replace hS:=hS.ext hE;clear hE;refine ⟨_,rfl,?_⟩
  refine ⟨fun h=>absurd (by decide) h,?_⟩
  refine AK ?_
  go_step
  refine Y1 9 ?_
  refine Y1 10 ?_
  refine CS 11 ?_
  refine SA ?_;clear hS;intro w hS
  refine Ah 12 ?_
  refine AM AA ?_ _
 all_goals
  repeat' (first|(refine AF ?_;go_step)|fail)
  refine AJ (xs:=[_,_]) rfl (.cons (AD.arr hS rfl (Aj (n:=64) rfl) AQ) (.cons (AD.tmp rfl) (.nil))) (by simp) rfl ?_
  exact ⟨rfl,hS.sub Ad⟩
theorem C3{x:Int}{l:List Int}{n:Nat}(hx: -9223372036854775808≤x∧x≤9223372036854775807)(h:Pe l n):Pe (x::l) (n+1):=fun i hi=>by
 cases i with
 | zero=>exact hx
 | succ i=>exact h i (by omega)
theorem Fa:Pe [] 0:=fun i hi=>by omega
theorem Qo(n:Int)(h: -4096<n∧n<4096): -9223372036854775808≤sv n∧sv n≤9223372036854775807:=by
 have h1:=Ky n h
 have h2:2^sz n≤2^12:=Nat.pow_le_pow_right (by omega) h1
 unfold sv
 split<;>omega
theorem J0{W w:World}{rs:List Ak}{g:Nat}{D:Dk}{ns:List Int}{ad:Option Addr}{n c:Nat}(h:CX W w rs g D ns ad n c)(hn:n=1):Calls Tryz.prog 30 #[.pointer (some ⟨g,0,none⟩), .slice ad n c] w (CY W g (DM (AG ns 0),D) (NS ad n c ns::rs)):=by
 subst hn
 have hS:=h.s
 unfold DK NS at hS
 have hr0:=h.r 0 (by omega)
 have hL:=h.L
 obtain ⟨b,q⟩:=D
 dsimp only at hS
 obtain ⟨x0,rfl⟩:=Bb (a:=ad) hS AQ (by omega)
 obtain ⟨u,hu⟩:∃u,AG ns 0=u:=⟨_,rfl⟩
 rw [hu] at hr0
 have key:∃(A B E:Int),(DM u=(BN [A,B],E))∧(-9223372036854775808≤A∧A≤9223372036854775807)∧(-9223372036854775808≤B∧B≤9223372036854775807)∧∀w,Calls Tryz.prog 50 #[.int .i64 u] w fun e w'=>e= .returned (.tuple #[.int .i64 A, .int .i64 B, .int .i64 E])∧AP w w':=by
  by_cases hx: -4096<u∧u<4096
  ·have:=Ky u hx
   exact ⟨(sz u:Int),sv u,0,by unfold DM;rw [if_pos hx],by omega,Qo u hx,fun w=>(Ej u w hx.1 hx.2).mono fun e w' ⟨h1,h2⟩=>⟨h1,h2▸ AP.refl _⟩⟩
  exact ⟨0,0,1,by unfold DM;rw [if_neg hx],by omega,by omega,fun w=>If u w (by omega)⟩
 obtain ⟨A,B,E,k1,k2,k3,k4⟩:=key
 have HC:=AC k4
 have HI:=AC (C3 k2 (C3 k3 Fa))
 rw [hu,k1]
 have HU:=AC hu
 rw [←HU.out] at HC
 clear h k1 k2 k3 k4 hu
 go_enter Tryz.func30,Tryz.ntmps30
 repeat' (first
  | (refine Ar 50 ?_);refine As AA Tryz.call50 (HC.out _) (C9 hS ?_);clear hS;intro w hS;go_step|(refine Ar 39 ?_);refine As AA Tryz.call39 (De _ (some ⟨g19,0,none⟩) 2 2 [A,B] (hS.slBlk (cs:=[Value.int .i64 A,Value.int .i64 B]) (n:=2) (s:=1) AQ rfl (by decide)) HI.out (by decide) (hL.ext hS.1)) (C9 hS ?_);clear hS;intro w hS;go_step|refine X0 ?_|refine RE 11 ?_|refine X9 ?_|refine RW ?_|(refine AH 19 ?_);(refine At ?_;apply Ae (o:=⟨some 19,_,_,_,_,_⟩) hS 46 2 _ rfl 3 1 8 M9 _ _;(case hvs=>(repeat (first|exact AV.nil|(apply AV.agg;(rfl);(rfl))|(apply AV.one;exact D0;(rfl);(rfl)))));(case hn=>rfl);(case hn0=>decide);(case hns=>decide);clear hS;intro g19 w hS;refine AB ?_;go_step)|refine AF ?_;go_step|fail)
 refine AJ (xs:=[_,_]) rfl (.cons (AD.tmp rfl) (.cons (AD.tmp rfl) (.nil))) (by simp) rfl ?_
 exact Ay (hS.sub Ad)
structure Mf(K:FuncId)(f1 f2 f3:Int→Int→Int→Int):Prop where
 call:∀(args:Array Value)(w:World),(callFunc K args).run Tryz.prog w= .ok (.enter K args) w
 bd:∀x y z,(0≤f1 x y z∧f1 x y z≤255)∧(0≤f2 x y z∧f2 x y z≤255)∧(0≤f3 x y z∧f3 x y z≤255)
 good:∀x y z w,(BB x&&BB y&&BB z)=true→Calls Tryz.prog K #[.int .i64 x, .int .i64 y, .int .i64 z] w fun e w'=>e= .returned (.tuple #[.int .i64 (f1 x y z), .int .i64 (f2 x y z), .int .i64 (f3 x y z), .int .i64 0])∧AP w w'
 bad:∀x y z w,(BB x&&BB y&&BB z)=false→Calls Tryz.prog K #[.int .i64 x, .int .i64 y, .int .i64 z] w fun e w'=>e= .returned (.tuple #[.int .i64 0, .int .i64 0, .int .i64 0, .int .i64 1])∧AP w w'
theorem CU{x y z:Int}(h:(BB x&&BB y&&BB z)=true):(0≤x∧x≤255)∧(0≤y∧y≤255)∧(0≤z∧z≤255):=by
 simp [BB] at h;omega
theorem Ns:Mf 32 Pb PZ Pa:=⟨Tryz.call32,fun x y z=>⟨Qs _ _ _,Qq _ _ _,Qr _ _ _⟩,fun x y z w h=>KR x y z w (CU h).1 (CU h).2.1 (CU h).2.2,fun x y z w h=>KS x y z w h⟩
theorem KQ:Mf 33 Fz Fy Fx:=⟨Tryz.call33,fun x y z=>⟨Bm _,Bm _,Bm _⟩,fun x y z w h=>Ii x y z w (CU h).1 (CU h).2.1 (CU h).2.2,fun x y z w h=>Ij x y z w h⟩
theorem GV{K:FuncId}{f1 f2 f3:Int→Int→Int→Int}(hK:Mf K f1 f2 f3){W w:World}{rs:List Ak}{g gb:Nat}{D:Dk}{ns:List Int}{ad:Option Addr}{n c:Nat}(h:CX W w (blk gb [.func (.func K) #[] #[]]::rs) g D ns ad n c)(hn:n=3):
 Calls Tryz.prog 51 #[.pointer (some ⟨g,0,none⟩), .slice ad n c, .pointer (some ⟨gb,0,none⟩)] w (CY W g (C6 f1 f2 f3 (AG ns 0) (AG ns 1) (AG ns 2),D) (NS ad n c ns::blk gb [.func (.func K) #[] #[]]::rs)):=by
 subst hn
 have hS:=h.s
 unfold DK NS at hS
 have hL:=h.L
 obtain ⟨b,q⟩:=D
 dsimp only at hS
 obtain ⟨x0,rfl⟩:=Bb (a:=ad) hS AQ (by omega)
 have key:∃(A B C E:Int),(C6 f1 f2 f3 (AG ns 0) (AG ns 1) (AG ns 2)=(BN [A,B,C],E))∧(-9223372036854775808≤A∧A≤9223372036854775807)∧(-9223372036854775808≤B∧B≤9223372036854775807)∧(-9223372036854775808≤C∧C≤9223372036854775807)∧
  ∀w,Calls Tryz.prog K #[.int .i64 (AG ns 0), .int .i64 (AG ns 1), .int .i64 (AG ns 2)] w fun e w'=>e= .returned (.tuple #[.int .i64 A, .int .i64 B, .int .i64 C, .int .i64 E])∧AP w w':=by
  cases hx:(BB (AG ns 0)&&BB (AG ns 1)&&BB (AG ns 2)) with
  | true=>
    have hb:=hK.bd (AG ns 0) (AG ns 1) (AG ns 2)
    exact ⟨_,_,_,0,by unfold C6;rw [if_pos hx],by omega,by omega,by omega,fun w=>hK.good _ _ _ w hx⟩
  | false=>exact ⟨0,0,0,1,by unfold C6;rw [hx];rfl,by omega,by omega,by omega,fun w=>hK.bad _ _ _ w hx⟩
 obtain ⟨A,B,C,E,k1,k2,k3,k4,k5⟩:=key
 have HC:=AC k5
 have HK:=AC hK.call
 have HI:=AC (C3 k2 (C3 k3 (C3 k4 Fa)))
 rw [k1]
 clear h k1 k2 k3 k4 k5 hK
 go_enter Tryz.func51,Tryz.ntmps51
 repeat' (first
  | refine X8 ?_|refine AF ?_;go_step|fail)
 refine AW [10] (fun w=>St W w [blk gb [.func (.func K) #[] #[]],own 3 1 (some ⟨x0,0,none⟩) 3 c (ns.map (Value.int .i64))]) AA ?_
 replace hS:=hS.drew
 focus
  apply PY 0 DC AA AA AA E6 [10,11,12,13,14,15,16,17,18,19] AA (hS.sub Ad)
  case hfr=>intro w hS;((refine At ?_;apply Bz hS 59 _ rfl _ _ rfl (Ai rfl) _;(case hp=>exact AQ);(case hc=>rfl);refine AB ?_;go_step));refine wpList_nil ?_;exact ⟨rfl,rfl⟩
  case hd=>rfl
  refine Ah 1 ?_
  refine DT 2 Cj (V.indexSl Tryz.underlying46 Bg rfl rfl (show Au 0 0 from rfl) (by omega) (show 0*1=0 from rfl) Bj) ?_;go_step
  refine Y6 3 [10,11,12,13,14,15,16,17,18,19] ?_
  refine Ah 4 ?_
  refine DT 5 Cj (V.indexSl Tryz.underlying46 Bg rfl rfl (show Au 1 1 from rfl) (by omega) (show 1*1=1 from rfl) Bj) ?_;go_step
  refine Y6 6 [10,11,12,13,14,15,16,17,18,19] ?_
  refine Ah 7 ?_
  refine DT 8 Cj (V.indexSl Tryz.underlying46 Bg rfl rfl (show Au 2 2 from rfl) (by omega) (show 2*1=2 from rfl) Bj) ?_;go_step
  refine Y6 9 [10,11,12,13,14,15,16,17,18,19] ?_
  refine CS 10 ?_
  refine Bc (f:=K) rfl rfl HK.out (HC.out _) ?_;rintro e w ⟨rfl,hE⟩;replace hS:=hS.ext hE;clear hE;refine ⟨_,rfl,?_⟩
  refine ⟨fun h=>absurd (by decide) h,?_⟩
  refine AK ?_
  go_step
  refine Ah 11 ?_
  refine Y1 12 ?_
  refine Y1 13 ?_
  refine Y1 14 ?_
  refine Y1 15 ?_
  refine Ah 16 ?_
  refine Ah 17 ?_
  refine Ah 18 ?_
  refine Ah 19 ?_
  refine AM AA ?_ _
 all_goals
  repeat' (first|(refine AF ?_;go_step)|fail)
  repeat' (first
   | (refine Ar 39 ?_);refine As AA Tryz.call39 (De _ (some ⟨g30,0,none⟩) 3 3 [A,B,C] (hS.slBlk (cs:=[Value.int .i64 A,Value.int .i64 B,Value.int .i64 C]) (n:=3) (s:=1) AQ rfl (by decide)) HI.out (by decide) (hL.ext hS.1)) (C9 hS ?_);clear hS;intro w hS;go_step|refine X0 ?_|(refine AH 30 ?_);(refine At ?_;apply Ae (o:=⟨some 30,_,_,_,_,_⟩) hS 46 3 _ rfl 3 1 8 M9 _ _;(case hvs=>(repeat (first|exact AV.nil|(apply AV.agg;(rfl);(rfl))|(apply AV.one;exact D0;(rfl);(rfl)))));(case hn=>rfl);(case hn0=>decide);(case hns=>decide);clear hS;intro g30 w hS;refine AB ?_;go_step)|refine AF ?_;go_step|fail)
  refine AJ (xs:=[_,_]) rfl (.cons (AD.tmp rfl) (.cons (AD.tmp rfl) (.nil))) (by simp) rfl ?_
  exact Ay (hS.sub Ad)
theorem LP{c C S:List Int}{n:Nat}(hC:BL C S=0)(hcl:c.length=n)(hb:bE c=0):0≤Av c n (lw (CA C S))∧Av c n (lw (CA C S))≤9223372036854775807:=by
 unfold bE at hb
 split at hb
 ·cases hb
 split at hb
 ·rename_i h1 h2
  have h3:=I7 (l:=lw (CA C S)) (n:=n) (c:=c) (fun i hi=>(BV c 0 9999).1 h2 i (by omega)) (fun s=>by
   by_cases h:s∈S
   ·exact ((EH hC s).1 h).2
   rw [(EH hC s).2 h];omega)
  refine ⟨h3.1,Int.le_trans h3.2 ?_⟩
  have:(n:Int)≤256:=by omega
  omega
 cases hb
theorem LS(bst:List Int→Int)(hbst:∀c C S,Mk c c.length C S→Av c c.length (lw (CA C S))=bst c){W w:World}{rs:List Ak}{g:Nat}{D:Dk}{ns:List Int}{ad:Option Addr}{n c:Nat}(h:CX W w rs g D ns ad n c):Calls Tryz.prog 34 #[.pointer (some ⟨g,0,none⟩), .slice ad n c] w (CY W g (D3 bst ns,D) (NS ad n c ns::rs)):=by
 have hS:=h.s
 unfold DK NS at hS
 have hL:=h.L
 have hln:ns.length=n:=by have:=(hS.sl (a:=ad) (s:=1) AQ).1;simpa using this
 have hn:=h.ln
 obtain ⟨b,q⟩:=D
 dsimp only at hS
 have HM:=AC fun (w:World)(hv:Sl w 1 (.slice ad n c) n (ns.map (Value.int .i64)))=>Lg w ns ad n c hv (by omega)
 obtain ⟨E,hE⟩:∃E,bE ns=E:=⟨_,rfl⟩
 have HE:=AC hE
 have HLN:=AC hln
 rw [hE] at HM
 clear h
 by_cases hz:E=0
 case neg=>
  have hFe:D3 bst ns=(nl,E):=by unfold D3;rw [hE,if_pos hz]
  rw [hFe]
  clear hFe hE hln
  go_enter Tryz.func34,Tryz.ntmps34
  repeat' (first
   | (refine Ar 53 ?_);refine As AA Tryz.call53 (HM.out _ (hS.sl (a:=ad) (s:=1) AQ)) ?_;rintro e w ⟨C,S,ao,m,co,hC,hSm,hm,hT,-,rfl,hS2⟩;replace hS:=hS.call1 hS2;clear hS2;refine A2 ?_;go_step|refine X0 ?_|refine X9 ?_|refine LA ?_|refine QP 6 ?_;clear hS;intro g6 w hS|refine Qx ?_;clear hS;intro w hS|refine AF ?_;go_step|fail)
  all_goals (try exact AU)
  refine AJ (xs:=[_,_]) rfl (.cons (AD.tmp rfl) (.cons (AD.tmp rfl) (.nil))) (by simp) rfl ?_
  exact Ay (hS.sub Ad)
 subst hz
 have hFe:D3 bst ns=(BN [bst ns],0):=by unfold D3;rw [hE,if_neg (by omega)]
 rw [hFe]
 obtain ⟨B,hB⟩:∃B,bst ns=B:=⟨_,rfl⟩
 rw [hB]
 have HB:=AC hB
 clear hFe hE hln hB
 go_enter Tryz.func34,Tryz.ntmps34
 repeat' (first
  | (refine Ar 53 ?_);refine As AA Tryz.call53 (HM.out _ (hS.sl (a:=ad) (s:=1) AQ)) ?_;rintro e w ⟨C,S,ao,m,co,hC,hSm,hm,hT,hMk,rfl,hS2⟩;replace hS:=hS.call1 hS2;clear hS2;refine A2 ?_;go_step|refine X0 ?_|refine X9 ?_|refine LA ?_|refine QP 6 ?_;clear hS;intro g6 w hS|refine Qx ?_;clear hS;intro w hS|refine AF ?_;go_step|fail)
 all_goals (try exact AU)
 have hmk:=hMk rfl
 have hcb:=LQ (fun _=>hmk) hT HLN.out
 have hcn:=hcb.2 HE.out
 have hcm:=LP hT HLN.out HE.out
 have hbe:Av ns n (lw (CA C S))=B:=by
  rw [←HB.out,←HLN.out]
  exact hbst ns C S (by rw [HLN.out];exact hmk)
 rw [hbe] at hcn hcm
 have HCA:=AC fun (w:World)(hv:Sl w 1 (.slice ad n c) n (ns.map (Value.int .i64)))(hs:Sl w 1 (.slice ao m co) m (S.map (Value.int .i64)))=>(by have:=My w C S ao m co hC hs (by omega) ns ad n c hv (by omega);rw [hcn,hcb.1,HE.out] at this;exact this:Calls Tryz.prog 54 #[tv C (.slice ao m co), .slice ad n c] w fun e w'=>e= .returned (.tuple #[.int .i64 B, .int .i64 0])∧AP w w')
 have HI:=AC (C3 (show -9223372036854775808≤B∧B≤9223372036854775807 by omega) Fa)
 clear hmk hcb hcn hcm hbe hMk hT
 repeat' (first
  | (refine Ar 54 ?_);refine As AA Tryz.call54 (HCA.out _ (hS.sl (a:=ad) (s:=1) AQ) (hS.sl (a:=ao) (s:=1) AQ)) (C9 hS ?_);clear hS;intro w hS;go_step|(refine Ar 39 ?_);refine As AA Tryz.call39 (De _ (some ⟨g24,0,none⟩) 1 1 [B] (hS.slBlk (cs:=[Value.int .i64 B]) (n:=1) (s:=1) AQ rfl (by decide)) HI.out (by decide) (hL.ext hS.1)) (C9 hS ?_);clear hS;intro w hS;go_step|refine X0 ?_|refine X9 ?_|refine OH ?_|refine Qw 24 ?_;clear hS;intro g24 w hS|refine AF ?_;go_step|fail)
 refine AJ (xs:=[_,_]) rfl (.cons (AD.tmp rfl) (.cons (AD.tmp rfl) (.nil))) (by simp) rfl ?_
 exact Ay (hS.sub Ad)
theorem V.makeFn{P:Program}{ty:TypeId}{a:Act}{fn:Fn}{cs:List Operand}{vs:List Value}(h:cs.map a.eval=vs):Bi P (.makeFunc fn #[] cs.toArray) ty a (.func fn #[] vs.toArray):=fun d pos af g w=>by
 subst h
 simp only [execOp,List.map_toArray]
 rfl
section
variable{K:Type}[DecidableEq K]{P:Program}{enc:K→Value}{W w:World}{rs rs':List Ak}{Q:Exit→Act→World→Prop}{K':Act→World→Prop}{o:Oper}{a:Act}
theorem MM(hS:St W w rs)(mt:TypeId)(x i y:Operand)(ho:o.op= .insert mt x i y)(b:Nat)(hx:a.eval x= .map (some b))(k:K)(hk:a.eval i=enc k){kt et:TypeId}(hm:P.underlying mt=some (.map kt et))(law:Cr P kt enc)
 (f:K→Option Value) (hp:AL (mp enc b f) rs rs') (v:Value) (hv:a.eval y=v) (hd:o.dst=none) (h:∀w',St W w' (mp enc b (fun j=>if j=k then some v else f j)::rs')→K' a w'):o.wp P a w K' Q:=by
 obtain ⟨w',hrun,h1,h2,h3⟩:=(hS.mp hp).update hm law k (a.eval y)
 rw [hv] at h1
 have hE0:AP ({w with heap:=#[]}:World) w:=⟨rfl,rfl,rfl,by simp,fun i hi=>by simp at hi⟩
 have hE1:=h2 _ (by simp) hE0
 have hlt':=h1.lt
 have hsz:w.heap.size≤w'.heap.size:=by
  by_cases hc:w.heap.size≤b+1
  ·omega
  have e1:=h3 (w.heap.size-1) (by omega)
  have e2:w.heap[w.heap.size-1]? =some (w.heap[w.heap.size-1]'(by omega)):=Array.getElem?_eq_getElem (by omega)
  rw [e2] at e1
  have:=(Array.getElem?_eq_some_iff.1 e1).1
  omega
 have hO:Cy [b] w w':=⟨hE1.os,hE1.tape,hE1.output,hsz,fun i _ hi=>h3 i (by simpa using hi)⟩
 have hh:=h w' (by
  refine St.change (rs1:=[mp enc b (fun j=>if j=k then some v else f j)]) (hS.pull hp) fun f1 hf1 _ _=>?_
  obtain ⟨rfl,_⟩:=hf1
  exact ⟨[b],⟨[b],[],rfl,⟨rfl,h1⟩,rfl⟩,by simp,fun c hc=> .inl hc,hO⟩)
 unfold Oper.wp execOp
 simp only [ho,hx,hk,Sem.run_bind,hrun,Result.andThen_ok,Sem.run_pure]
 show K' (a.put o.dst undef) _
 rw [hd]
 exact hh
end
def kc:FP→FuncId
 | .kSet=>17| .kCoarse=>18| .kShow=>19| .kTokens=>20| .kWave=>41| .kBack=>41| .kDown=>41| .kUp=>41| .kSize=>30| .kTint=>51| .kPlain=>51| .kBest=>34
structure Bx where
 w:Nat
 b:Nat
 d:Nat
 u:Nat
 t:Nat
 p:Nat
def Ct(x:Bx):FP→Array Value
 | .kWave=>#[.pointer (some ⟨x.w,0,none⟩)]| .kBack=>#[.pointer (some ⟨x.b,0,none⟩)]| .kDown=>#[.pointer (some ⟨x.d,0,none⟩)]| .kUp=>#[.pointer (some ⟨x.u,0,none⟩)]| .kTint=>#[.pointer (some ⟨x.t,0,none⟩)]| .kPlain=>#[.pointer (some ⟨x.p,0,none⟩)]|_=>#[]
def SF(x:Bx)(c:FP):Value:= .func (.func (kc c)) #[] (Ct x c)
def C1(x:Bx)(c:FP):Value:= .agg #[.int .i64 c.many,SF x c]
def MU(x:Bx):List Ak:=[blk x.w [.func (.func 22) #[] #[]],blk x.b [.func (.func 24) #[] #[]],blk x.d [.func (.func 26) #[] #[]],blk x.u [.func (.func 28) #[] #[]],blk x.t [.func (.func 32) #[] #[]],blk x.p [.func (.func 33) #[] #[]]]
theorem Dg(w:World)(v:Value)(hv:∃K,v= .func (.func K) #[] #[]):Calls Tryz.prog 21 #[v] w fun e w'=>∃g,e= .returned (.func (.func 41) #[] #[.pointer (some ⟨g,0,none⟩)])∧St w w' [blk g [v]]:=by
 obtain ⟨K,rfl⟩:=hv
 have hS:=St.start w
 go_enter Tryz.func21,Tryz.ntmps21
 repeat' (first
  | (refine AH 3 ?_);refine AT (.func (.func 41) #[] #[.pointer (some ⟨g1,0,none⟩)]) (V.makeFn (vs:=[.pointer (some ⟨g1,0,none⟩)]) rfl) AA ?_;go_step|refine X8 ?_|(refine AH 1 ?_);(refine At ?_;apply K5 (o:=⟨some 1,_,_,_,_,_⟩) hS 56 _ rfl _;(case hx=>exact D0);(case h1=>rfl);clear hS;intro g1 w hS;refine AB ?_;go_step)|refine AF ?_;go_step|fail)
 go_ret
 exact ⟨g1,rfl,hS.sub Ad⟩
theorem FL(w:World)(v:Value)(hv:∃K,v= .func (.func K) #[] #[]):Calls Tryz.prog 31 #[v] w fun e w'=>∃g,e= .returned (.func (.func 51) #[] #[.pointer (some ⟨g,0,none⟩)])∧St w w' [blk g [v]]:=by
 obtain ⟨K,rfl⟩:=hv
 have hS:=St.start w
 go_enter Tryz.func31,Tryz.ntmps31
 repeat' (first
  | (refine AH 3 ?_);refine AT (.func (.func 51) #[] #[.pointer (some ⟨g1,0,none⟩)]) (V.makeFn (vs:=[.pointer (some ⟨g1,0,none⟩)]) rfl) AA ?_;go_step|refine X8 ?_|(refine AH 1 ?_);(refine At ?_;apply K5 (o:=⟨some 1,_,_,_,_,_⟩) hS 59 _ rfl _;(case hx=>exact D0);(case h1=>rfl);clear hS;intro g1 w hS;refine AB ?_;go_step)|refine AF ?_;go_step|fail)
 go_ret
 exact ⟨g1,rfl,hS.sub Ad⟩
theorem Pi(m:Int)(f:Fn)(x y:Array Value)(w:World):(Instr.build 42 #[(0, .int .i64 m),(1, .func f x y)]).run Tryz.prog w= .ok (.agg #[.int .i64 m, .func f x y]) w:=by
 first|rfl|kernel_rfl
theorem Ou(c:FP):∀(args:Array Value)(w:World),(callFunc (kc c) args).run Tryz.prog w= .ok (.enter (kc c) args) w:=by
 cases c
 case kSet=>exact Tryz.call17
 case kCoarse=>exact Tryz.call18
 case kShow=>exact Tryz.call19
 case kTokens=>exact Tryz.call20
 case kSize=>exact Tryz.call30
 case kTint=>exact Tryz.call51
 case kPlain=>exact Tryz.call51
 case kBest=>exact Tryz.call34
 all_goals exact Tryz.call41
def BI(x:Bx)(s:ByteArray):Option Value:=(Da s).map (C1 x)
theorem BH{α β:Type}(f:α→β)(p:Prop)[Decidable p](a:α)(b:Option α):(if p then some a else b).map f=if p then some (f a) else b.map f:=by split<;>rfl
theorem LH(x:Bx):BI x=fun j=>if j=⟨#[98,101,115,116]⟩ then some (C1 x .kBest) else if j=⟨#[112,108,97,105,110]⟩ then some (C1 x .kPlain) else if j=⟨#[116,105,110,116]⟩ then some (C1 x .kTint) else if j=⟨#[115,105,122,101]⟩ then some (C1 x .kSize) else if j=⟨#[117,112]⟩ then some (C1 x .kUp) else if j=⟨#[100,111,119,110]⟩ then some (C1 x .kDown) else if j=⟨#[98,97,99,107]⟩ then some (C1 x .kBack) else if j=⟨#[119,97,118,101]⟩ then some (C1 x .kWave) else if j=⟨#[116,111,107,101,110,115]⟩ then some (C1 x .kTokens) else if j=⟨#[115,104,111,119]⟩ then some (C1 x .kShow) else if j=⟨#[99,111,97,114,115,101]⟩ then some (C1 x .kCoarse) else if j=⟨#[115,101,116]⟩ then some (C1 x .kSet) else none:=by
 funext j
 unfold BI Da
 rw [BH,BH,BH,BH,BH,BH,BH,BH,BH,BH,BH,BH]
 rfl
theorem CT(w0:World):Calls Tryz.prog 14 #[] w0 fun e w=>∃g x,e= .returned (.map (some g))∧St w0 w (mp sk g (BI x)::MU x):=by
 have hS:=St.start w0
 go_enter Tryz.func14,Tryz.ntmps14
 repeat' (first
  | (refine AH 6 ?_);refine Ac (f:=21) Tryz.call21 AA ?_;refine ⟨_,(Dg _ (.func (.func 22) #[] #[]) ⟨_,rfl⟩),?_⟩;rintro e w ⟨gw,rfl,hS2⟩;replace hS:=hS.call1 hS2;clear hS2;refine A2 ?_;go_step|(refine AH 8 ?_);refine Ac (f:=21) Tryz.call21 AA ?_;refine ⟨_,(Dg _ (.func (.func 24) #[] #[]) ⟨_,rfl⟩),?_⟩;rintro e w ⟨gb,rfl,hS2⟩;replace hS:=hS.call1 hS2;clear hS2;refine A2 ?_;go_step|(refine AH 10 ?_);refine Ac (f:=21) Tryz.call21 AA ?_;refine ⟨_,(Dg _ (.func (.func 26) #[] #[]) ⟨_,rfl⟩),?_⟩;rintro e w ⟨gd,rfl,hS2⟩;replace hS:=hS.call1 hS2;clear hS2;refine A2 ?_;go_step|(refine AH 12 ?_);refine Ac (f:=21) Tryz.call21 AA ?_;refine ⟨_,(Dg _ (.func (.func 28) #[] #[]) ⟨_,rfl⟩),?_⟩;rintro e w ⟨gu,rfl,hS2⟩;replace hS:=hS.call1 hS2;clear hS2;refine A2 ?_;go_step|(refine AH 15 ?_);refine Ac (f:=31) Tryz.call31 AA ?_;refine ⟨_,(FL _ (.func (.func 32) #[] #[]) ⟨_,rfl⟩),?_⟩;rintro e w ⟨gt,rfl,hS2⟩;replace hS:=hS.call1 hS2;clear hS2;refine A2 ?_;go_step|(refine AH 17 ?_);refine Ac (f:=31) Tryz.call31 AA ?_;refine ⟨_,(FL _ (.func (.func 33) #[] #[]) ⟨_,rfl⟩),?_⟩;rintro e w ⟨gp,rfl,hS2⟩;replace hS:=hS.call1 hS2;clear hS2;refine A2 ?_;go_step|(refine AH 1 ?_);refine At ?_;refine DQ (o:=⟨some 1,_,_,_,_,_⟩) sk hS _ rfl ?_;clear hS;intro g1 w hS;refine AB ?_;go_step|refine MS 2 ?_|refine MS 3 ?_|refine MS 4 ?_|refine MS 5 ?_|refine MS 7 ?_|refine MS 9 ?_|refine MS 11 ?_|refine MS 13 ?_|refine MS 14 ?_|refine MS 16 ?_|refine MS 18 ?_|refine MS 19 ?_|(with_reducible refine Ap none _ ?_);refine At ?_;apply MM (enc:=sk) hS _ _ _ _ rfl _ rfl _ rfl Tryz.underlying44 (An Tryz.underlying9) _;(case hp=>exact AQ);(case hv=>rfl);(case hd=>rfl);clear hS;intro w hS|refine X0 ?_|refine AF ?_;go_step|fail)
 go_ret
 refine ⟨g1,⟨gw,gb,gd,gu,gt,gp⟩,rfl,?_⟩
 rw [LH]
 obtain ⟨ff,hS2⟩:∃ff,St w0 w [mp sk g1 ff,blk gw [.func (.func 22) #[] #[]],blk gb [.func (.func 24) #[] #[]],blk gd [.func (.func 26) #[] #[]],blk gu [.func (.func 28) #[] #[]],blk gt [.func (.func 32) #[] #[]],blk gp [.func (.func 33) #[] #[]]]∧ff=_:=⟨_,hS.sub Ad,rfl⟩
 exact hS2.2▸ hS2.1
theorem Od(bst:List Int→Int)(hbst:∀c C S,Mk c c.length C S→Av c c.length (lw (CA C S))=bst c)(c:FP)(x:Bx){W w:World}{rs:List Ak}{g:Nat}{D:Dk}{ns:List Int}{ad:Option Addr}{n cc:Nat}(h:CX W w (MU x++rs) g D ns ad n cc)(hm:CJ c.many n=true):
 Calls Tryz.prog (kc c) (#[.pointer (some ⟨g,0,none⟩), .slice ad n cc]++Ct x c) w (CY W g (DZ bst c D ns) (NS ad n cc ns::(MU x++rs))):=by
 have hm2:(n:Int)=c.many∨(c.many<0∧1≤n):=by
  unfold CJ at hm
  simpa using hm
 clear hm
 unfold MU at h⊢
 simp only [List.cons_append,List.nil_append] at h⊢
 cases c
 case kSet=>exact M8 h (by simp [FP.many] at hm2;omega)
 case kCoarse=>exact I9 h (by simp [FP.many] at hm2;omega)
 case kShow=>exact LU h
 case kTokens=>exact JB h
 case kWave=>
  have h9:CX W w (blk x.w [.func (.func 22) #[] #[]]::blk x.b [.func (.func 24) #[] #[]]::blk x.d [.func (.func 26) #[] #[]]::blk x.u [.func (.func 28) #[] #[]]::blk x.t [.func (.func 32) #[] #[]]::blk x.p [.func (.func 33) #[] #[]]::rs) g D ns ad n cc:=⟨h.s.sub Ad,h.ok,h.ln,h.r,h.L⟩
  exact (IK QV h9).mono fun e w' ⟨h1,h2⟩=>⟨h1,(show St W w' (DK g (DZ bst .kWave D ns).2::NS ad n cc ns::blk x.w [.func (.func 22) #[] #[]]::blk x.b [.func (.func 24) #[] #[]]::blk x.d [.func (.func 26) #[] #[]]::blk x.u [.func (.func 28) #[] #[]]::blk x.t [.func (.func 32) #[] #[]]::blk x.p [.func (.func 33) #[] #[]]::rs) from h2).sub Ad⟩
 case kBack=>
  have h9:CX W w (blk x.b [.func (.func 24) #[] #[]]::blk x.w [.func (.func 22) #[] #[]]::blk x.d [.func (.func 26) #[] #[]]::blk x.u [.func (.func 28) #[] #[]]::blk x.t [.func (.func 32) #[] #[]]::blk x.p [.func (.func 33) #[] #[]]::rs) g D ns ad n cc:=⟨h.s.sub Ad,h.ok,h.ln,h.r,h.L⟩
  exact (IK QW h9).mono fun e w' ⟨h1,h2⟩=>⟨h1,(show St W w' (DK g (DZ bst .kBack D ns).2::NS ad n cc ns::blk x.b [.func (.func 24) #[] #[]]::blk x.w [.func (.func 22) #[] #[]]::blk x.d [.func (.func 26) #[] #[]]::blk x.u [.func (.func 28) #[] #[]]::blk x.t [.func (.func 32) #[] #[]]::blk x.p [.func (.func 33) #[] #[]]::rs) from h2).sub Ad⟩
 case kDown=>
  have h9:CX W w (blk x.d [.func (.func 26) #[] #[]]::blk x.w [.func (.func 22) #[] #[]]::blk x.b [.func (.func 24) #[] #[]]::blk x.u [.func (.func 28) #[] #[]]::blk x.t [.func (.func 32) #[] #[]]::blk x.p [.func (.func 33) #[] #[]]::rs) g D ns ad n cc:=⟨h.s.sub Ad,h.ok,h.ln,h.r,h.L⟩
  exact (IK QX h9).mono fun e w' ⟨h1,h2⟩=>⟨h1,(show St W w' (DK g (DZ bst .kDown D ns).2::NS ad n cc ns::blk x.d [.func (.func 26) #[] #[]]::blk x.w [.func (.func 22) #[] #[]]::blk x.b [.func (.func 24) #[] #[]]::blk x.u [.func (.func 28) #[] #[]]::blk x.t [.func (.func 32) #[] #[]]::blk x.p [.func (.func 33) #[] #[]]::rs) from h2).sub Ad⟩
 case kUp=>
  have h9:CX W w (blk x.u [.func (.func 28) #[] #[]]::blk x.w [.func (.func 22) #[] #[]]::blk x.b [.func (.func 24) #[] #[]]::blk x.d [.func (.func 26) #[] #[]]::blk x.t [.func (.func 32) #[] #[]]::blk x.p [.func (.func 33) #[] #[]]::rs) g D ns ad n cc:=⟨h.s.sub Ad,h.ok,h.ln,h.r,h.L⟩
  exact (IK QY h9).mono fun e w' ⟨h1,h2⟩=>⟨h1,(show St W w' (DK g (DZ bst .kUp D ns).2::NS ad n cc ns::blk x.u [.func (.func 28) #[] #[]]::blk x.w [.func (.func 22) #[] #[]]::blk x.b [.func (.func 24) #[] #[]]::blk x.d [.func (.func 26) #[] #[]]::blk x.t [.func (.func 32) #[] #[]]::blk x.p [.func (.func 33) #[] #[]]::rs) from h2).sub Ad⟩
 case kSize=>exact J0 h (by simp [FP.many] at hm2;omega)
 case kTint=>
  have h9:CX W w (blk x.t [.func (.func 32) #[] #[]]::blk x.w [.func (.func 22) #[] #[]]::blk x.b [.func (.func 24) #[] #[]]::blk x.d [.func (.func 26) #[] #[]]::blk x.u [.func (.func 28) #[] #[]]::blk x.p [.func (.func 33) #[] #[]]::rs) g D ns ad n cc:=⟨h.s.sub Ad,h.ok,h.ln,h.r,h.L⟩
  exact (GV Ns h9 (by simp [FP.many] at hm2;omega)).mono fun e w' ⟨h1,h2⟩=>⟨h1,(show St W w' (DK g (DZ bst .kTint D ns).2::NS ad n cc ns::blk x.t [.func (.func 32) #[] #[]]::blk x.w [.func (.func 22) #[] #[]]::blk x.b [.func (.func 24) #[] #[]]::blk x.d [.func (.func 26) #[] #[]]::blk x.u [.func (.func 28) #[] #[]]::blk x.p [.func (.func 33) #[] #[]]::rs) from h2).sub Ad⟩
 case kPlain=>
  have h9:CX W w (blk x.p [.func (.func 33) #[] #[]]::blk x.w [.func (.func 22) #[] #[]]::blk x.b [.func (.func 24) #[] #[]]::blk x.d [.func (.func 26) #[] #[]]::blk x.u [.func (.func 28) #[] #[]]::blk x.t [.func (.func 32) #[] #[]]::rs) g D ns ad n cc:=⟨h.s.sub Ad,h.ok,h.ln,h.r,h.L⟩
  exact (GV KQ h9 (by simp [FP.many] at hm2;omega)).mono fun e w' ⟨h1,h2⟩=>⟨h1,(show St W w' (DK g (DZ bst .kPlain D ns).2::NS ad n cc ns::blk x.p [.func (.func 33) #[] #[]]::blk x.w [.func (.func 22) #[] #[]]::blk x.b [.func (.func 24) #[] #[]]::blk x.d [.func (.func 26) #[] #[]]::blk x.u [.func (.func 28) #[] #[]]::blk x.t [.func (.func 32) #[] #[]]::rs) from h2).sub Ad⟩
 case kBest=>exact LS bst hbst h
theorem FO(s:ByteArray):∀x∈Aq s,x.size≤s.size:=by
 intro x hx
 unfold Aq Lib.goFieldsP at hx
 obtain ⟨y,_,rfl⟩:=List.mem_map.1 hx
 rw [ByteArray.size_extract]
 omega
theorem GC:∀{ws:List ByteArray} {i:Nat} {s:ByteArray},ws[i]? =some s→D1 s=none→Bk ws=none
 | [],i,s,h,_=>by simp at h
 | x::r,0,s,h,hn=>by
   simp at h;subst h
   unfold Bk;rw [hn]
 | x::r,i+1,s,h,hn=>by
   unfold Bk
   rw [GC (ws:=r) (i:=i) (by simpa using h) hn]
   cases D1 x<;>rfl
theorem GD:∀{a:List ByteArray} {L:List Int} {s:ByteArray} {n:Int},Bk a=some L→D1 s=some n→Bk (a++[s])=some (L++[n])
 | [],L,s,n,h,hn=>by
   cases h
   show Bk [s]=_
   unfold Bk;rw [hn];rfl
 | x::r,L,s,n,h,hn=>by
   unfold Bk at h
   rw [List.cons_append]
   unfold Bk
   cases hx:D1 x with
   | none=>rw [hx] at h;cases h
   | some m=>
     rw [hx] at h
     dsimp only at h⊢
     cases hr:Bk r with
     | none=>rw [hr] at h;cases h
     | some R=>
       rw [hr] at h
       cases h
       rw [GD hr hn]
       rfl
def EV(W:World)(g:Nat)(r:(ByteArray×Int)×Dk)(rs:List Ak)(e:Ending)(w:World):Prop:=e= .returned (.tuple #[.string r.1.1, .int .i64 r.1.2])∧St W w (DK g r.2::rs)
theorem Eu(w:World):(zeroValue 42).run Tryz.prog w= .ok (.agg #[.int .i64 0, .nilFunc]) w:=by first|rfl|kernel_rfl
theorem Lf{W w:World}{rs:List Ak}{g:Nat}{D:Dk}(hS:St W w (DK g D::rs))(s:ByteArray)(hs:s.size≤300)(hw:Aq s=[]):Calls Tryz.prog 10 #[.pointer (some ⟨g,0,none⟩), .string s] w (EV W g ((nl,4),D) rs):=by
 have HF:=AC fun (w:World)=>DG w s hs
 rw [hw] at HF
 go_enter Tryz.func10,Tryz.ntmps10
 repeat' (first
  | (refine Ar 12 ?_);refine As AA Tryz.call12 (HF.out _) ?_;rintro e w ⟨A,n,hn,rfl,hS2⟩;subst hn;replace hS:=hS.call1 hS2;clear hS2;refine A2 ?_;go_step|refine X0 ?_|refine OX ?_|refine K9 ?_|refine AF ?_;go_step|fail)
 all_goals (try exact AU)
 refine AJ (xs:=[_,_]) rfl (.cons (AD.tmp rfl) (.cons (AD.tmp rfl) (.nil))) (by simp) rfl ?_
 exact ⟨rfl,hS.sub Ad⟩
theorem Ow{W w:World}{rs:List Ak}{g:Nat}{D:Dk}(hS:St W w (DK g D::rs))(s:ByteArray)(hs:s.size≤300)(w0:ByteArray)(ws:List ByteArray)(hw:Aq s=w0::ws)(hc:Da w0=none):Calls Tryz.prog 10 #[.pointer (some ⟨g,0,none⟩), .string s] w (EV W g ((nl,4),D) rs):=by
 have HF:=AC fun (w:World)=>DG w s hs
 have hl:(Aq s).length=ws.length+1:=by rw [hw];rfl
 have hg0:((Aq s).map Value.string)[0]? =some (.string w0):=by rw [hw];rfl
 obtain ⟨WV,hWV⟩:∃V,(Aq s).map Value.string=V:=⟨_,rfl⟩
 obtain ⟨k,hk⟩:∃k,ws.length=k:=⟨_,rfl⟩
 rw [hWV] at hg0 HF
 rw [hl,hk] at HF
 have HNN:=AC fun x=>(show BI x w0=none by unfold BI;rw [hc];rfl)
 clear hw hc hl hWV
 go_enter Tryz.func10,Tryz.ntmps10
 repeat' (first
  | (refine Ar 12 ?_);refine As AA Tryz.call12 (HF.out _) ?_;rintro e w ⟨A,n,hn,rfl,hS2⟩;subst hn;replace hS:=hS.call1 hS2;clear hS2;refine A2 ?_;go_step|refine X0 ?_|refine OX ?_|refine K9 ?_|refine AF ?_;go_step|fail)
 all_goals (try exact AU)
 refine AW [4,9] (fun w=>St W w [own 9 1 (some ⟨A,0,none⟩) (k+1) (k+1) WV]) AA ?_
 replace hS:=hS.drew
 focus
  refine Ah 1 ?_
  refine Rk 2 ?_
  refine Y9 3 [4,5,6,7,9,10] ?_
  refine ED [0,8] AA (by simp) (.cons DC AA ?_ (.cons DC AA ?_ (.nil)))
  rotate_left 1
  focus
   refine Y3 ?_;clear hS;intro g7 w hS
   refine CS 0 ?_
   refine BT (f:=14) rfl Tryz.call14 (CT _) ?_;rintro e w ⟨gm,x,rfl,hS2⟩;replace hS:=hS.call hS2;clear hS2;unfold MU at hS;simp only [List.cons_append,List.nil_append] at hS;refine ⟨_,rfl,?_⟩
   refine ⟨fun _ _=>hS.sub Ad,?_⟩
   refine AK ?_
   go_step
   refine CS 4 ?_
   refine Df (enc:=sk) hS _ _ _ rfl gm rfl w0 rfl Tryz.underlying44 (An Tryz.underlying9) (.agg #[.int .i64 0, .nilFunc]) Eu (BI x) AQ (HNN.out x) ?_
   refine ⟨fun h=>absurd (by decide) h,?_⟩
   refine AK ?_
   go_step
   refine Ah 5 ?_
   refine Y1 6 ?_
   refine Y1 7 ?_
   refine CS 9 ?_
   refine Y4 ?_;clear hS;intro w hS
   refine Ah 10 ?_
   refine AM AA ?_ _
  rotate_right 1
  focus
   refine BT (f:=14) rfl Tryz.call14 (CT _) ?_;rintro e w ⟨gm,x,rfl,hS2⟩;replace hS:=hS.call hS2;clear hS2;unfold MU at hS;simp only [List.cons_append,List.nil_append] at hS;refine ⟨_,rfl,?_⟩
   refine ⟨fun _ _=>hS.sub Ad,?_⟩
   refine AK ?_
   go_step
   refine ED [4,8] AA (by simp) (.cons DC AA ?_ (.cons DC AA ?_ (.nil)))
   rotate_left 1
   focus
    refine Y3 ?_;clear hS;intro g7 w hS
    refine CS 4 ?_
    refine Df (enc:=sk) hS _ _ _ rfl gm rfl w0 rfl Tryz.underlying44 (An Tryz.underlying9) (.agg #[.int .i64 0, .nilFunc]) Eu (BI x) AQ (HNN.out x) ?_
    refine ⟨fun h=>absurd (by decide) h,?_⟩
    refine AK ?_
    go_step
    refine Ah 5 ?_
    refine Y1 6 ?_
    refine Y1 7 ?_
    refine CS 9 ?_
    refine Y4 ?_;clear hS;intro w hS
    refine Ah 10 ?_
    refine AM AA ?_ _
   rotate_right 1
   focus
    refine Df (enc:=sk) hS _ _ _ rfl gm rfl w0 rfl Tryz.underlying44 (An Tryz.underlying9) (.agg #[.int .i64 0, .nilFunc]) Eu (BI x) AQ (HNN.out x) ?_
    refine ⟨fun h=>absurd (by decide) h,?_⟩
    refine AK ?_
    go_step
    refine Ah 5 ?_
    refine Y1 6 ?_
    refine Y1 7 ?_
    refine CS 8 ?_
    refine Y3 ?_;clear hS;intro g7 w hS
    refine CS 9 ?_
    refine Y4 ?_;clear hS;intro w hS
    refine Ah 10 ?_
    refine AM AA ?_ _
 all_goals
  repeat' (first|(refine AF ?_;go_step)|fail)
  repeat' (first
   | go_skip|((first|(with_reducible refine Gj ?_)|(with_reducible refine MT ?_));(first|go_big_want|go_step);go_step)|((with_reducible refine Ap _ (.pick _ _ _) ?_);(refine Al rfl AA ?_;go_step))|((refine AH 28 ?_);(refine N3 _ (V.not rfl) AA (fun hB=>?_) (fun hB=>?_)<;>(try exact O3 hB)<;>go_step))|(refine AF ?_;go_step)|fail)
 all_goals (try exact AU)
 all_goals
  refine AJ (xs:=[_,_]) rfl (.cons (AD.tmp rfl) (.cons (AD.tmp rfl) (.nil))) (by simp) rfl ?_
  exact ⟨rfl,hS.sub Ad⟩
theorem C4(p:Nat→Bool)(s:ByteArray):∀(f pos:Nat)(st:Option Nat)(acc:List (Nat×Nat)),(Lib.spansFromP p s f pos st acc).1.length≤acc.length+f
 | 0,pos,st,acc=>by simp [Lib.spansFromP]
 | f+1,pos,st,acc=>by
   unfold Lib.spansFromP
   split
   ·split
    ·cases st with
     | none=>have:=C4 p s f (pos+(Utf8.decode s pos).2) none acc;dsimp only;omega
     | some a=>have:=C4 p s f (pos+(Utf8.decode s pos).2) none (acc++[(a,pos)]);rw [List.length_append] at this;simp only [List.length_cons,List.length_nil] at this;dsimp only;omega
    cases st with
    | none=>have:=C4 p s f (pos+(Utf8.decode s pos).2) (some pos) acc;dsimp only;omega
    | some a=>have:=C4 p s f (pos+(Utf8.decode s pos).2) (some a) acc;dsimp only;omega
   dsimp only;omega
theorem Hc(s:ByteArray):(Aq s).length≤s.size+1:=by
 unfold Aq Lib.goFieldsP Lib.spansOfP
 rw [List.length_map]
 have h:=C4 (fun c=>decide (c=32)) s s.size 0 none []
 obtain ⟨⟨a,b⟩,hab⟩:∃x,Lib.spansFromP (fun c=>decide (c=32)) s s.size 0 none []=x:=⟨_,rfl⟩
 rw [hab] at h⊢
 unfold Lib.closeSpans
 simp only [List.length_nil,Nat.zero_add] at h
 cases b with
 | none=>dsimp only at h⊢;omega
 | some y=>dsimp only at h⊢;rw [List.length_append];simp only [List.length_cons,List.length_nil];omega
theorem NP{W w:World}{rs:List Ak}{g:Nat}{D:Dk}(hS:St W w (DK g D::rs))(s:ByteArray)(hs:s.size≤300)(w0:ByteArray)(ws:List ByteArray)(hw:Aq s=w0::ws)(c:FP)(hc:Da w0=some c)(hm:CJ c.many ws.length=false):Calls Tryz.prog 10 #[.pointer (some ⟨g,0,none⟩), .string s] w (EV W g ((nl,4),D) rs):=by
 have HF:=AC fun (w:World)=>DG w s hs
 have hl:(Aq s).length=ws.length+1:=by rw [hw];rfl
 have hg0:((Aq s).map Value.string)[0]? =some (.string w0):=by rw [hw];rfl
 have hgk:∀i (v:ByteArray),ws[i]? =some v→((Aq s).map Value.string)[1+i]? =some (.string v):=fun i v hv=>by rw [hw,Nat.add_comm,List.map_cons,List.getElem?_cons_succ,List.getElem?_map,hv];rfl
 have hsz:∀i (v:ByteArray),ws[i]? =some v→v.size≤300:=fun i v hv=>Nat.le_trans (FO s v (by rw [hw];exact List.mem_cons_of_mem _ (List.mem_of_getElem? hv))) hs
 have hkm:ws.length≤1000:=by
  have:=Hc s
  rw [hl] at this;omega
 have HGK:=AC hgk
 have HSZ:=AC hsz
 obtain ⟨WV,hWV⟩:∃V,(Aq s).map Value.string=V:=⟨_,rfl⟩
 obtain ⟨k,hk⟩:∃k,ws.length=k:=⟨_,rfl⟩
 rw [hWV] at hg0 HF HGK
 rw [hl,hk] at HF
 rw [hk] at hm hkm
 have HK:=AC hk
 obtain ⟨M,hM⟩:∃M,c.many=M:=⟨_,rfl⟩
 obtain ⟨KF,hKF⟩:∃K,kc c=K:=⟨_,rfl⟩
 have HNN:=AC fun x=>(show BI x w0=some (.agg #[.int .i64 M, .func (.func KF) #[] (Ct x c)]) by unfold BI;rw [hc,←hM,←hKF];rfl)
 have hMr: -1≤M∧M≤3:=by rw [←hM];cases c<;>decide
 have HM:=AC hM
 have HKF:=AC hKF
 rw [hM] at hm
 have hm2:¬((k:Int)=M∨(M<0∧1≤k)):=by unfold CJ at hm;simpa using hm
 clear hw hc hl hWV hgk hsz hk hM hKF hm
 go_enter Tryz.func10,Tryz.ntmps10
 repeat' (first
  | (refine Ar 12 ?_);refine As AA Tryz.call12 (HF.out _) ?_;rintro e w ⟨A,n,hn,rfl,hS2⟩;subst hn;replace hS:=hS.call1 hS2;clear hS2;refine A2 ?_;go_step|refine X0 ?_|refine OX ?_|refine K9 ?_|refine AF ?_;go_step|fail)
 all_goals (try exact AU)
 refine AW [4,9] (fun w=>St W w [own 9 1 (some ⟨A,0,none⟩) (k+1) (k+1) WV]) AA ?_
 replace hS:=hS.drew
 focus
  refine Ah 1 ?_
  refine Rk 2 ?_
  refine Y9 3 [4,5,6,7,9,10] ?_
  refine ED [0,8] AA (by simp) (.cons DC AA ?_ (.cons DC AA ?_ (.nil)))
  rotate_left 1
  focus
   refine Y3 ?_;clear hS;intro g7 w hS
   refine CS 0 ?_
   refine BT (f:=14) rfl Tryz.call14 (CT _) ?_;rintro e w ⟨gm,x,rfl,hS2⟩;replace hS:=hS.call hS2;clear hS2;unfold MU at hS;simp only [List.cons_append,List.nil_append] at hS;have hNN:=HNN.out x;obtain ⟨CP,hCP⟩:∃C,Ct x c=C:=⟨_,rfl⟩;rw [hCP] at hNN;have HNX:=AC hNN;have HCP:=AC hCP;clear hNN hCP;refine ⟨_,rfl,?_⟩
   refine ⟨fun _ _=>hS.sub Ad,?_⟩
   refine AK ?_
   go_step
   refine CS 4 ?_
   refine Bo (enc:=sk) hS _ _ _ rfl gm rfl w0 rfl Tryz.underlying44 (An Tryz.underlying9) (.agg #[.int .i64 0, .nilFunc]) Eu (BI x) AQ _ HNX.out ?_
   refine ⟨fun h=>absurd (by decide) h,?_⟩
   refine AK ?_
   go_step
   refine Ah 5 ?_
   refine Y1 6 ?_
   refine Y1 7 ?_
   refine CS 9 ?_
   refine Y4 ?_;clear hS;intro w hS
   refine Ah 10 ?_
   refine AM AA ?_ _
  rotate_right 1
  focus
   refine BT (f:=14) rfl Tryz.call14 (CT _) ?_;rintro e w ⟨gm,x,rfl,hS2⟩;replace hS:=hS.call hS2;clear hS2;unfold MU at hS;simp only [List.cons_append,List.nil_append] at hS;have hNN:=HNN.out x;obtain ⟨CP,hCP⟩:∃C,Ct x c=C:=⟨_,rfl⟩;rw [hCP] at hNN;have HNX:=AC hNN;have HCP:=AC hCP;clear hNN hCP;refine ⟨_,rfl,?_⟩
   refine ⟨fun _ _=>hS.sub Ad,?_⟩
   refine AK ?_
   go_step
   refine ED [4,8] AA (by simp) (.cons DC AA ?_ (.cons DC AA ?_ (.nil)))
   rotate_left 1
   focus
    refine Y3 ?_;clear hS;intro g7 w hS
    refine CS 4 ?_
    refine Bo (enc:=sk) hS _ _ _ rfl gm rfl w0 rfl Tryz.underlying44 (An Tryz.underlying9) (.agg #[.int .i64 0, .nilFunc]) Eu (BI x) AQ _ HNX.out ?_
    refine ⟨fun h=>absurd (by decide) h,?_⟩
    refine AK ?_
    go_step
    refine Ah 5 ?_
    refine Y1 6 ?_
    refine Y1 7 ?_
    refine CS 9 ?_
    refine Y4 ?_;clear hS;intro w hS
    refine Ah 10 ?_
    refine AM AA ?_ _
   rotate_right 1
   focus
    refine Bo (enc:=sk) hS _ _ _ rfl gm rfl w0 rfl Tryz.underlying44 (An Tryz.underlying9) (.agg #[.int .i64 0, .nilFunc]) Eu (BI x) AQ _ HNX.out ?_
    refine ⟨fun h=>absurd (by decide) h,?_⟩
    refine AK ?_
    go_step
    refine Ah 5 ?_
    refine Y1 6 ?_
    refine Y1 7 ?_
    refine CS 8 ?_
    refine Y3 ?_;clear hS;intro g7 w hS
    refine CS 9 ?_
    refine Y4 ?_;clear hS;intro w hS
    refine Ah 10 ?_
    refine AM AA ?_ _
 all_goals
  repeat' (first|(refine AF ?_;go_step)|fail)
  repeat' (first
   | go_skip|((first|(with_reducible refine Gj ?_)|(with_reducible refine MT ?_));(first|go_big_want|go_step);go_step)|((with_reducible refine Ap _ (.pick _ _ _) ?_);first|(refine Al rfl AA ?_;go_step)|(refine Af rfl AA ?_;go_step))|((refine AH 28 ?_);(refine N3 _ (V.not rfl) AA (fun hB=>?_) (fun hB=>?_)<;>(try exact O3 hB)<;>go_step))|((refine AH 35 ?_);(refine BX _ (V.neq rfl rfl) AA (fun hB=>?_) (fun hB=>?_)<;>(try exact AU)<;>go_step))|((refine AH 39 ?_);(refine BX _ (V.geq rfl rfl) AA (fun hB=>?_) (fun hB=>?_)<;>(try exact AU)<;>go_step))|((with_reducible refine Ap _ (.call ⟨.builtin .len,_,_⟩) ?_);(refine AR AA (V.len Tryz.underlying22 rfl) ?_;go_step))|((with_reducible refine Ap _ (.binOp .sub _ _ _ _) ?_);(refine AR AA (V.subI rfl rfl (by omega)) ?_;go_step))|((with_reducible refine Ap _ (.fieldAddr 42 _ 0) ?_);(refine AR AA (V.fieldAddr NB rfl Bj) ?_;go_step))|((with_reducible refine Ap _ (.binOp .lss _ _ _ _) ?_);(refine AR AA (V.lss rfl rfl) ?_;go_step))|((with_reducible refine Ap _ (.load 3 _) ?_);(refine At ?_;apply Bz hS 3 _ rfl _ _ rfl (Ai rfl) _;(case hp=>exact AQ);(case hc=>rfl);refine AB ?_;go_step))|(refine AF ?_;go_step)|fail)
 all_goals (try exact AU)
 all_goals
  refine AJ (xs:=[_,_]) rfl (.cons (AD.tmp rfl) (.cons (AD.tmp rfl) (.nil))) (by simp) rfl ?_
  exact ⟨rfl,hS.sub Ad⟩
theorem NQ(bst:List Int→Int)(hbst:∀c C S,Mk c c.length C S→Av c c.length (lw (CA C S))=bst c){W w:World}{rs:List Ak}{g:Nat}{D:Dk}(hS:St W w (DK g D::rs))(hD:D.ok)(hL:CM W)(s:ByteArray)(hs:s.size≤300)(w0:ByteArray)(ws:List ByteArray)(hw:Aq s=w0::ws)(c:FP)(hc:Da w0=some c)(hm:CJ c.many ws.length=true)
 (F:(ByteArray×Int)×Dk) (hF1:Bk ws=none→F=((nl,4),D)) (hF2:∀ns,Bk ws=some ns→F=DZ bst c D ns):Calls Tryz.prog 10 #[.pointer (some ⟨g,0,none⟩), .string s] w (EV W g F rs):=by
 have HF:=AC fun (w:World)=>DG w s hs
 have hl:(Aq s).length=ws.length+1:=by rw [hw];rfl
 have hg0:((Aq s).map Value.string)[0]? =some (.string w0):=by rw [hw];rfl
 have hgk:∀i (v:ByteArray),ws[i]? =some v→((Aq s).map Value.string)[1+i]? =some (.string v):=fun i v hv=>by rw [hw,Nat.add_comm,List.map_cons,List.getElem?_cons_succ,List.getElem?_map,hv];rfl
 have hsz:∀i (v:ByteArray),ws[i]? =some v→v.size≤300:=fun i v hv=>Nat.le_trans (FO s v (by rw [hw];exact List.mem_cons_of_mem _ (List.mem_of_getElem? hv))) hs
 have hkm:ws.length≤1000:=by
  have:=Hc s
  rw [hl] at this;omega
 have HGK:=AC hgk
 have HSZ:=AC hsz
 obtain ⟨WV,hWV⟩:∃V,(Aq s).map Value.string=V:=⟨_,rfl⟩
 obtain ⟨k,hk⟩:∃k,ws.length=k:=⟨_,rfl⟩
 rw [hWV] at hg0 HF HGK
 rw [hl,hk] at HF
 rw [hk] at hm hkm
 have HK:=AC hk
 obtain ⟨M,hM⟩:∃M,c.many=M:=⟨_,rfl⟩
 obtain ⟨KF,hKF⟩:∃K,kc c=K:=⟨_,rfl⟩
 have HNN:=AC fun x=>(show BI x w0=some (.agg #[.int .i64 M, .func (.func KF) #[] (Ct x c)]) by unfold BI;rw [hc,←hM,←hKF];rfl)
 have hMr: -1≤M∧M≤3:=by rw [←hM];cases c<;>decide
 have HM:=AC hM
 have HKF:=AC hKF
 rw [hM] at hm
 have hm2:(k:Int)=M∨(M<0∧1≤k):=by unfold CJ at hm;simpa using hm
 have HMO:=AC hm
 have HF1:=AC hF1
 have HF2:=AC hF2
 clear hw hc hl hWV hgk hsz hk hM hKF hm hF1 hF2
 go_enter Tryz.func10,Tryz.ntmps10
 repeat' (first
  | (refine Ar 12 ?_);refine As AA Tryz.call12 (HF.out _) ?_;rintro e w ⟨A,n,hn,rfl,hS2⟩;subst hn;replace hS:=hS.call1 hS2;clear hS2;refine A2 ?_;go_step|refine X0 ?_|refine OX ?_|refine K9 ?_|refine AF ?_;go_step|fail)
 all_goals (try exact AU)
 refine AW [4,9] (fun w=>St W w [own 9 1 (some ⟨A,0,none⟩) (k+1) (k+1) WV]) AA ?_
 replace hS:=hS.drew
 focus
  refine Ah 1 ?_
  refine Rk 2 ?_
  refine Y9 3 [4,5,6,7,9,10] ?_
  refine ED [0,8] AA (by simp) (.cons DC AA ?_ (.cons DC AA ?_ (.nil)))
  rotate_left 1
  focus
   refine Y3 ?_;clear hS;intro g7 w hS
   refine CS 0 ?_
   refine BT (f:=14) rfl Tryz.call14 (CT _) ?_;rintro e w ⟨gm,x,rfl,hS2⟩;replace hS:=hS.call hS2;clear hS2;unfold MU at hS;simp only [List.cons_append,List.nil_append] at hS;have hNN:=HNN.out x;obtain ⟨CP,hCP⟩:∃C,Ct x c=C:=⟨_,rfl⟩;rw [hCP] at hNN;have HNX:=AC hNN;have HCP:=AC hCP;clear hNN hCP;refine ⟨_,rfl,?_⟩
   refine ⟨fun _ _=>hS.sub Ad,?_⟩
   refine AK ?_
   go_step
   refine CS 4 ?_
   refine Bo (enc:=sk) hS _ _ _ rfl gm rfl w0 rfl Tryz.underlying44 (An Tryz.underlying9) (.agg #[.int .i64 0, .nilFunc]) Eu (BI x) AQ _ HNX.out ?_
   refine ⟨fun h=>absurd (by decide) h,?_⟩
   refine AK ?_
   go_step
   refine Ah 5 ?_
   refine Y1 6 ?_
   refine Y1 7 ?_
   refine CS 9 ?_
   refine Y4 ?_;clear hS;intro w hS
   refine Ah 10 ?_
   refine AM AA ?_ _
  rotate_right 1
  focus
   refine BT (f:=14) rfl Tryz.call14 (CT _) ?_;rintro e w ⟨gm,x,rfl,hS2⟩;replace hS:=hS.call hS2;clear hS2;unfold MU at hS;simp only [List.cons_append,List.nil_append] at hS;have hNN:=HNN.out x;obtain ⟨CP,hCP⟩:∃C,Ct x c=C:=⟨_,rfl⟩;rw [hCP] at hNN;have HNX:=AC hNN;have HCP:=AC hCP;clear hNN hCP;refine ⟨_,rfl,?_⟩
   refine ⟨fun _ _=>hS.sub Ad,?_⟩
   refine AK ?_
   go_step
   refine ED [4,8] AA (by simp) (.cons DC AA ?_ (.cons DC AA ?_ (.nil)))
   rotate_left 1
   focus
    refine Y3 ?_;clear hS;intro g7 w hS
    refine CS 4 ?_
    refine Bo (enc:=sk) hS _ _ _ rfl gm rfl w0 rfl Tryz.underlying44 (An Tryz.underlying9) (.agg #[.int .i64 0, .nilFunc]) Eu (BI x) AQ _ HNX.out ?_
    refine ⟨fun h=>absurd (by decide) h,?_⟩
    refine AK ?_
    go_step
    refine Ah 5 ?_
    refine Y1 6 ?_
    refine Y1 7 ?_
    refine CS 9 ?_
    refine Y4 ?_;clear hS;intro w hS
    refine Ah 10 ?_
    refine AM AA ?_ _
   rotate_right 1
   focus
    refine Bo (enc:=sk) hS _ _ _ rfl gm rfl w0 rfl Tryz.underlying44 (An Tryz.underlying9) (.agg #[.int .i64 0, .nilFunc]) Eu (BI x) AQ _ HNX.out ?_
    refine ⟨fun h=>absurd (by decide) h,?_⟩
    refine AK ?_
    go_step
    refine Ah 5 ?_
    refine Y1 6 ?_
    refine Y1 7 ?_
    refine CS 8 ?_
    refine Y3 ?_;clear hS;intro g7 w hS
    refine CS 9 ?_
    refine Y4 ?_;clear hS;intro w hS
    refine Ah 10 ?_
    refine AM AA ?_ _
 all_goals
  repeat' (first|(refine AF ?_;go_step)|fail)
  repeat' (first
   | go_skip|((first|(with_reducible refine Gj ?_)|(with_reducible refine MT ?_));(first|go_big_want|go_step);go_step)|((with_reducible refine Ap _ (.pick _ _ _) ?_);first|(refine Al rfl AA ?_;go_step)|(refine Af rfl AA ?_;go_step))|((refine AH 28 ?_);(refine N3 _ (V.not rfl) AA (fun hB=>?_) (fun hB=>?_)<;>(try exact O3 hB)<;>go_step))|((refine AH 35 ?_);(refine BX _ (V.neq rfl rfl) AA (fun hB=>?_) (fun hB=>?_)<;>(try exact AU)<;>go_step))|((refine AH 39 ?_);(refine BX _ (V.geq rfl rfl) AA (fun hB=>?_) (fun hB=>?_)<;>(try exact AU)<;>go_step))|((with_reducible refine Ap _ (.call ⟨.builtin .len,_,_⟩) ?_);(refine AR AA (V.len Tryz.underlying22 rfl) ?_;go_step))|((with_reducible refine Ap _ (.binOp .sub _ _ _ _) ?_);(refine AR AA (V.subI rfl rfl (by omega)) ?_;go_step))|((with_reducible refine Ap _ (.fieldAddr 42 _ 0) ?_);(refine AR AA (V.fieldAddr NB rfl Bj) ?_;go_step))|((with_reducible refine Ap _ (.binOp .lss _ _ _ _) ?_);(refine AR AA (V.lss rfl rfl) ?_;go_step))|((with_reducible refine Ap _ (.load 3 _) ?_);(refine At ?_;apply Bz hS 3 _ rfl _ _ rfl (Ai rfl) _;(case hp=>exact AQ);(case hc=>rfl);refine AB ?_;go_step))|(refine AF ?_;go_step)|fail)
 all_goals (try exact AU)
 all_goals
  repeat' (first
   | refine X1 ?_|(with_reducible refine Ap _ (.slice 22 _ _ _ _) ?_);(refine AR AA (V.slice Tryz.underlying22 Gy rfl (by (first|exact Lo.none|exact Lo.some rfl BY)) (by (first|exact Up.none|exact Up.some rfl BY)) (by omega) (by omega)) ?_;go_step)|refine OX ?_|refine AF ?_;go_step|fail)
 all_goals
  obtain ⟨ca,hca,hcb⟩:∃ca,cutAt (some ⟨A,0,none⟩) (k+1) 1 1=ca∧(0<k→ca=some ⟨A,1,none⟩):=⟨_,rfl,fun h=>by unfold cutAt;rw [if_neg (by omega)];rfl⟩
  rw [hca]
  clear hca
  replace hS:=hS.nilk 3 1 .i64
  go_loopg [9,50] k (fun gk ov kv w=>∃(i:Nat) (ao:Option Addr) (co:Nat) (L:List Int),gk+i=k∧ov= .slice ao i co∧kv= .int .i64 i∧Bk (ws.take i)=some L∧L.length=i∧Pe L i∧St W w (own 3 1 ao i co (L.map (Value.int .i64))::blk g7 [.int .i64 M, .func (.func KF) #[] CP]::blk x.w [.func (.func 22) #[] #[]]::blk x.b [.func (.func 24) #[] #[]]::blk x.d [.func (.func 26) #[] #[]]::blk x.u [.func (.func 28) #[] #[]]::blk x.t [.func (.func 32) #[] #[]]::blk x.p [.func (.func 33) #[] #[]]::own 9 1 (some ⟨A,0,none⟩) (k+1) (k+1) WV::DK g D::rs))
  case atStart=>exact ⟨0,none,0,[],by omega,rfl,rfl,rfl,rfl,Fa,hS.sub Ad⟩
  case round=>
   clear hS
   obtain ⟨i,ao,co,L,hi,rfl,rfl,hLn,hLl,hLr,hS⟩:=hrel
   have HLN:=AC (And.intro hLn (And.intro hLl hLr))
   clear hLn hLl hLr
   by_cases hlt:i<k
   ·obtain ⟨v,hv⟩:∃v,ws[i]? =some v:=⟨_,List.getElem?_eq_getElem (by rw [HK.out];exact hlt)⟩
    have hgi:=HGK.out i v hv
    have HN:=AC fun (w:World)(hx:AP W w)=>KB w v (HSZ.out i v hv) (hL.ext hx)
    obtain rfl:=hcb (by omega)
    cases hnum:D1 v with
    | none=>
      obtain rfl:=HF1.out (GC hv hnum)
      have HNU:=AC hnum
      clear hv hnum
      repeat' (first
       | (refine Ar 15 ?_);refine As AA Tryz.call15 (HN.out _ hS.1) ?_;rintro e w ⟨n9,b9,rfl,-,h2,hE⟩;obtain rfl:=h2 HNU.out;clear h2;replace hS:=hS.ext hE;clear hE;refine A2 ?_;go_step|refine X0 ?_|refine X2 ?_|refine LC 52 ?_|refine X9 ?_|refine RY ?_|refine R8 ?_|refine AF ?_;go_step|fail)
      all_goals (try exact AU)
      refine AJ (xs:=[_,_]) rfl (.cons (AD.tmp rfl) (.cons (AD.tmp rfl) (.nil))) (by simp) rfl ?_
      exact ⟨rfl,hS.sub Ad⟩
    | some n=>
      have ht:ws.take (i+1)=ws.take i++[v]:=by rw [List.take_add_one,hv];rfl
      have hsn:=GD HLN.out.1 hnum
      rw [←ht] at hsn
      have HSN:=AC hsn
      have HRG:=AC (NY hnum)
      have HNU:=AC hnum
      clear hv hnum ht hsn
      repeat' (first
       | (refine Ar 15 ?_);refine As AA Tryz.call15 (HN.out _ hS.1) ?_;rintro e w ⟨n9,b9,rfl,h1,-,hE⟩;obtain ⟨rfl,rfl⟩:=h1 _ HNU.out;clear h1;replace hS:=hS.ext hE;clear hE;refine A2 ?_;go_step|refine X0 ?_|refine X2 ?_|refine LC 52 ?_|refine X9 ?_|refine RY ?_|refine X4 ?_|refine R8 ?_|refine Qw 63 ?_;clear hS;intro g63 w hS|refine Qy 64 ?_;clear hS;intro ad64 c64 w hS|refine AF ?_;go_step|fail)
      all_goals (try exact AU)
      go_roundg (gk-1)
      case measure=>omega
      case rel=>
       refine ⟨i+1,_,_,_,by omega,rfl,by go_num,HSN.out,by rw [List.length_append,HLN.out.2.1];rfl,?_,hS.sub Ad⟩
       intro j hj
       by_cases hji:j<i
       ·have e:AG (L++[n9]) j=AG L j:=by simp [AG,List.getD,List.getElem?_append_left (show j<L.length by rw [HLN.out.2.1];exact hji)]
        rw [e];exact HLN.out.2.2 j hji
       have hje:j=L.length:=by rw [HLN.out.2.1];omega
       have e:AG (L++[n9]) j=n9:=by rw [hje];simp [AG,List.getD]
       rw [e];exact HRG.out
   obtain rfl:i=k:=by omega
   have htk:ws.take i=ws:=List.take_of_length_le (by rw [HK.out];exact Nat.le_refl _)
   have hln:=HLN.out.1
   rw [htk] at hln
   obtain rfl:=HF2.out L hln
   have HCM:=AC (show Calls Tryz.prog KF (#[.pointer (some ⟨g,0,none⟩), .slice ao i co]++CP) wr (CY W g (DZ bst c D L) (NS ao i co L::(MU x++(blk g7 [.int .i64 M, .func (.func KF) #[] CP]::own 9 1 (some ⟨A,0,none⟩) (i+1) (i+1) WV::rs)))) by
    have h9:=Od bst hbst c x (W:=W) (w:=wr) (rs:=blk g7 [.int .i64 M, .func (.func KF) #[] CP]::own 9 1 (some ⟨A,0,none⟩) (i+1) (i+1) WV::rs) (g:=g) (D:=D) (ns:=L) (ad:=ao) (n:=i) (cc:=co) ⟨(show St W wr (DK g D::own 3 1 ao i co (L.map (Value.int .i64))::blk x.w [.func (.func 22) #[] #[]]::blk x.b [.func (.func 24) #[] #[]]::blk x.d [.func (.func 26) #[] #[]]::blk x.u [.func (.func 28) #[] #[]]::blk x.t [.func (.func 32) #[] #[]]::blk x.p [.func (.func 33) #[] #[]]::blk g7 [.int .i64 M, .func (.func KF) #[] CP]::own 9 1 (some ⟨A,0,none⟩) (i+1) (i+1) WV::rs) from hS.sub Ad),hD,by omega,HLN.out.2.2,hL⟩ (by rw [HM.out];exact HMO.out)
    rw [HKF.out,HCP.out] at h9
    exact h9)
   have HKC:=AC (show ∀(args:Array Value)(w:World),(callFunc KF args).run Tryz.prog w= .ok (.enter KF args) w by rw [←HKF.out];exact Ou c)
   clear htk hln
   repeat' (first
    | refine X2 ?_|refine AF ?_;go_step|fail)
   all_goals (try exact AU)
   repeat' (first
    | (refine AH 70 ?_);refine At ?_;refine Bc (o:=⟨some 70,_,_,_,_,_⟩) (f:=KF) rfl rfl HKC.out HCM.out ?_;clear hS;rintro e w ⟨rfl,hS⟩;unfold NS MU at hS;simp only [List.cons_append,List.nil_append] at hS;refine A2 ?_;go_step|refine X0 ?_|(with_reducible refine Ap _ (.fieldAddr 42 _ 1) ?_);(refine AR AA (V.fieldAddr Po rfl Bj) ?_;go_step)|refine X9 ?_|(with_reducible refine Ap _ (.load 40 _) ?_);(refine At ?_;apply Bz hS 40 _ rfl _ _ rfl (Ai rfl) _;(case hp=>exact AQ);(case hc=>rfl);refine AB ?_;go_step)|refine AF ?_;go_step|fail)
   refine AJ (xs:=[_,_]) rfl (.cons (AD.tmp rfl) (.cons (AD.tmp rfl) (.nil))) (by simp) rfl ?_
   exact ⟨rfl,hS.sub Ad⟩
theorem NO(bst:List Int→Int)(hbst:∀c C S,Mk c c.length C S→Av c c.length (lw (CA C S))=bst c){W w:World}{rs:List Ak}{g:Nat}{D:Dk}(hS:St W w (DK g D::rs))(hD:D.ok)(hL:CM W)(s:ByteArray)(hs:s.size≤300):
 Calls Tryz.prog 10 #[.pointer (some ⟨g,0,none⟩), .string s] w (EV W g (Am bst D s) rs):=by
 cases hw:Aq s with
 | nil=>
   have e:Am bst D s=((nl,4),D):=by unfold Am;rw [hw]
   rw [e];exact Lf hS s hs hw
 | cons w0 ws=>
   cases hc:Da w0 with
   | none=>
     have e:Am bst D s=((nl,4),D):=by unfold Am;rw [hw];dsimp only;rw [hc]
     rw [e];exact Ow hS s hs w0 ws hw hc
   | some c=>
     cases hm:CJ c.many ws.length with
     | false=>
       have e:Am bst D s=((nl,4),D):=by unfold Am;rw [hw];dsimp only;rw [hc];dsimp only;rw [hm];rfl
       rw [e];exact NP hS s hs w0 ws hw c hc hm
     | true=>
       refine NQ bst hbst hS hD hL s hs w0 ws hw c hc hm (Am bst D s) (fun h=>?_) (fun ns h=>?_)
       ·unfold Am;rw [hw];dsimp only;rw [hc];dsimp only;rw [hm,h];rfl
       unfold Am;rw [hw];dsimp only;rw [hc];dsimp only;rw [hm,h];rfl
theorem Lp:(0:Int)≤0∧(0:Int)≤5:=by omega
theorem Lq:(0:Int)≤1∧(1:Int)≤5:=by omega
theorem Lr:(0:Int)≤4∧(4:Int)≤5:=by omega
theorem Ls:(0:Int)≤5∧(5:Int)≤5:=by omega
theorem Ph(l:List Int):0≤bE l∧bE l≤5:=by
 unfold bE;split
 ·omega
 split<;>omega
theorem FX(D:Dk)(R:List Int)(E:Int)(h:0≤E∧E≤5):0≤(I5 D R E).1.2∧(I5 D R E).1.2≤5:=by
 unfold I5;split
 ·exact h
 exact (by first|exact Lp|exact Lq|exact Lr|exact Ls)
theorem Mw(bst:List Int→Int)(c:FP)(D:Dk)(n:List Int):0≤(DZ bst c D n).1.2∧(DZ bst c D n).1.2≤5:=by
 cases c
 case kSet=>
  show 0≤(EL D n).1.2∧(EL D n).1.2≤5
  unfold EL;split
  ·exact (by first|exact Lp|exact Lq|exact Lr|exact Ls)
  split<;>exact (by first|exact Lp|exact Lq|exact Lr|exact Ls)
 case kCoarse=>
  show 0≤(BC D n).1.2∧(BC D n).1.2≤5
  unfold BC;split<;>exact (by first|exact Lp|exact Lq|exact Lr|exact Ls)
 case kShow=>exact (by first|exact Lp|exact Lq|exact Lr|exact Ls)
 case kTokens=>
  show 0≤Eo 0 D.b∧Eo 0 D.b≤5
  unfold Eo;split<;>omega
 case kWave=>exact FX _ _ _ (by unfold N5;split<;>omega)
 case kBack=>exact FX _ _ _ (by unfold N5;split<;>omega)
 case kDown=>exact FX _ _ _ (by unfold EY;split<;>omega)
 case kUp=>exact FX _ _ _ (by unfold MX;split<;>omega)
 case kSize=>
  show 0≤(DM (AG n 0)).2∧(DM (AG n 0)).2≤5
  unfold DM;split<;>exact (by first|exact Lp|exact Lq|exact Lr|exact Ls)
 case kTint=>
  show 0≤(C6 Pb PZ Pa (AG n 0) (AG n 1) (AG n 2)).2∧(C6 Pb PZ Pa (AG n 0) (AG n 1) (AG n 2)).2≤5
  unfold C6;split<;>exact (by first|exact Lp|exact Lq|exact Lr|exact Ls)
 case kPlain=>
  show 0≤(C6 Fz Fy Fx (AG n 0) (AG n 1) (AG n 2)).2∧(C6 Fz Fy Fx (AG n 0) (AG n 1) (AG n 2)).2≤5
  unfold C6;split<;>exact (by first|exact Lp|exact Lq|exact Lr|exact Ls)
 case kBest=>
  show 0≤(D3 bst n).2∧(D3 bst n).2≤5
  unfold D3;split
  ·exact Ph n
  exact (by first|exact Lp|exact Lq|exact Lr|exact Ls)
theorem Le(bst:List Int→Int)(D:Dk)(s:ByteArray):0≤(Am bst D s).1.2∧(Am bst D s).1.2≤5:=by
 unfold Am
 split
 ·exact (by first|exact Lp|exact Lq|exact Lr|exact Ls)
 split
 ·exact (by first|exact Lp|exact Lq|exact Lr|exact Ls)
 split
 ·split
  ·exact (by first|exact Lp|exact Lq|exact Lr|exact Ls)
  exact Mw bst _ _ _
 exact (by first|exact Lp|exact Lq|exact Lr|exact Ls)
theorem LY(n:Int)(h:0≤n∧n≤5):(Aa n).size≤21:=by
 have:=Lib.itoa_length_le n (by omega) (by omega)
 show (Lib.itoa n).toArray.size≤_
 rw [List.size_toArray]
 exact this
theorem Lt(bst:List Int→Int)(a:List ByteArray)(s:ByteArray)(D:Dk):Bq bst D (a++[s])=Bq bst D a++[Fj (Am bst (Cl bst D a) s)]:=by
 rw [GM];rfl
theorem Jz(bst:List Int→Int)(a:List ByteArray)(s:ByteArray)(D:Dk):Cl bst D (a++[s])=(Am bst (Cl bst D a) s).2:=by
 rw [Hb];rfl
theorem JA(bst:List Int→Int):∀(a:List ByteArray){D:Dk},D.ok→(Cl bst D a).ok
 | [],_,h=>h
 | s::a,D,h=>by rw [Cl];exact JA bst a (NN bst h s)
def Iy(L:List ByteArray):Prop:=L.length≤60∧∀s∈L,s.size≤300
def Fi(bst:List Int→Int)(w0:World)(L:List ByteArray)(n:Nat)(e:Ending)(w:World):Prop:=
 (¬Iy L→e= .returned (.tuple #[.slice none 0 0, .int .i64 2])∧AP w0 w)∧
 (Iy L→∃(a:Option Addr) (c:Nat),e= .returned (.tuple #[.slice a n c, .int .i64 0])∧St w0 w [own 9 1 a n c ((Bq bst BG L).map Value.string)])
theorem Ms(w:World):(Instr.build 35 #[]).run Tryz.prog w= .ok (.agg (AE [.ints (List.replicate 64 0), .ints (List.replicate 64 0)]).toArray) w:=by kernel_rfl
theorem Nk(bst:List Int→Int)(w0:World)(ad:Option Addr)(n c:Nat)(L:List ByteArray)(hl:L.length=n)(hn:60<n)(hn2:n≤9223372036854775807):Calls Tryz.prog 6 #[.slice ad n c] w0 (Fi bst w0 L n):=by
 have hS:=St.start w0
 have HB:=AC (show ¬Iy L from fun h=>by have:=h.1;omega)
 clear hl
 go_enter Tryz.func6,Tryz.ntmps6
 repeat' (first
  | refine X0 ?_|refine OX ?_|refine Gg ?_|refine AF ?_;go_step|fail)
 all_goals (try exact AU)
 refine AJ (xs:=[_,_]) rfl (.cons (AD.tmp rfl) (.cons (AD.tmp rfl) (.nil))) (by simp) rfl ?_
 exact ⟨fun _=>⟨rfl,hS.1⟩,fun h=>absurd h HB.out⟩
theorem Lw(bst:List Int→Int)(hbst:∀c C S,Mk c c.length C S→Av c c.length (lw (CA C S))=bst c)(w0:World)(hL:CM w0)(ad:Option Addr)(n c:Nat)(L:List ByteArray)(hv:Sl w0 1 (.slice ad n c) n (L.map Value.string))(hn:n≤60):Calls Tryz.prog 6 #[.slice ad n c] w0 (Fi bst w0 L n):=by
 have hS:=St.start w0
 have hl:L.length=n:=by have:=hv.1;simpa using this
 have HLN:=AC hl
 have HCELL:=AC (show ∀i s,L[i]? =some s→∃b o,ad=some ⟨b,o,none⟩∧w0.cell? ⟨b,o+i,none⟩=some (.string s) from fun i s hs=>by
  have hi:=(List.getElem?_eq_some_iff.1 hs).1
  obtain ⟨b,o,e,h⟩:=BW hv (by omega)
  exact ⟨b,o,e,h i _ (by rw [List.getElem?_map,hs];rfl)⟩)
 clear hl
 go_enter Tryz.func6,Tryz.ntmps6
 repeat' (first
  | refine X0 ?_|refine OX ?_|refine Gg ?_|refine AF ?_;go_step|fail)
 all_goals (try exact AU)
 repeat' (first
  | refine AF ?_;go_step|fail)
 go_loopg [18] n (fun gk kv w=>∃i:Nat,gk+i=n∧kv= .int .i64 i∧(∀j s,j<i→L[j]? =some s→s.size≤300)∧St w0 w [])
 case atStart=>exact ⟨0,rfl,rfl,fun j s hj=>by omega,hS⟩
 case round=>
  clear hS
  obtain ⟨i,hi,rfl,hLo,hS⟩:=hrel
  have HLO:=AC hLo
  clear hLo
  by_cases hlt:i<n
  ·obtain ⟨s,hs⟩:∃s,L[i]? =some s:=⟨_,List.getElem?_eq_getElem (by rw [HLN.out];exact hlt)⟩
   obtain ⟨bl,ol,rfl,hcl⟩:=HCELL.out i s hs
   have HS:=AC hs
   clear hs
   by_cases hsz:s.size≤300
   ·repeat' (first
     | refine Pf 23 ?_|refine X0 ?_|refine X2 ?_|refine LC 20 ?_|refine Gg ?_|refine X4 ?_|refine Mm ?_|refine AF ?_;go_step|fail)
    all_goals (try exact AU)
    go_roundg (gk-1)
    case measure=>omega
    case rel=>
     refine ⟨i+1,by omega,by go_num,fun j t hj ht=>?_,hS⟩
     by_cases hji:j<i
     ·exact HLO.out j t hji ht
     obtain rfl:j=i:=by have h9:j<i+1:=hj;omega
     rw [HS.out] at ht;cases ht;exact hsz
   have HB:=AC (show ¬Iy L from fun h=>hsz (h.2 s (List.mem_of_getElem? HS.out)))
   repeat' (first
    | refine Pf 23 ?_|refine X0 ?_|refine X2 ?_|refine LC 20 ?_|refine Gg ?_|refine Mm ?_|refine AF ?_;go_step|fail)
   all_goals (try exact AU)
   refine AJ (xs:=[_,_]) rfl (.cons (AD.tmp rfl) (.cons (AD.tmp rfl) (.nil))) (by simp) rfl ?_
   exact ⟨fun _=>⟨rfl,hS.1⟩,fun h=>absurd h HB.out⟩
  obtain rfl:i=n:=by omega
  have HG:=AC (show Iy L from ⟨by rw [HLN.out];exact hn,fun s hs=>by
   obtain ⟨j,hj,rfl⟩:=List.getElem_of_mem hs
   exact HLO.out j _ (by rw [←HLN.out];exact hj) (List.getElem?_eq_getElem hj)⟩)
  clear HLO
  repeat' (first
   | refine X2 ?_|refine AF ?_;go_step|fail)
  all_goals (try exact AU)
  repeat' (first
   | (refine AH 26 ?_);refine AR AA (V.build (vs:=[]) rfl Ms) ?_;go_step|refine X0 ?_|(refine AH 27 ?_);(refine At ?_;apply K6 (o:=⟨some 27,_,_,_,_,_⟩) hS 35 _ rfl _ rfl;clear hS;intro g27 w hS;refine AB ?_;go_step)|refine AF ?_;go_step|fail)
  go_loopg [28] 64 (fun gk kv w=>∃j:Nat,gk+j=64∧kv= .int .i64 j∧St w0 w [prt g27 [.ints (List.replicate 64 0), .ints (List.replicate j 1++List.replicate (64-j) 0)]])
  case atStart=>exact ⟨0,rfl,rfl,by rw [show List.replicate 0 (1:Int)++List.replicate (64-0) (0:Int)=List.replicate 64 0 from rfl];exact hS.sub Ad⟩
  case round=>
   clear hS
   obtain ⟨j,hj,rfl,hS⟩:=hrel
   by_cases hlt9:j<64
   ·have hfs:=Hd 1 j hlt9
    have hyl:A4 (List.replicate j (1:Int)++List.replicate (64-j) 0) 64:=by unfold A4;simp;omega
    obtain ⟨Y,hY⟩:∃Y,List.replicate j (1:Int)++List.replicate (64-j) 0=Y:=⟨_,rfl⟩
    rw [hY] at hS hfs hyl
    have HFS:=AC hfs
    clear hfs hY
    repeat' (first
     | refine X0 ?_|refine X2 ?_|refine QC ?_|(with_reducible refine Ap _ (.fieldAddr 35 _ 1) ?_);(refine AR AA (V.fieldAddr IU rfl Bj) ?_;go_step)|refine Rj 35 ?_|refine X4 ?_|refine R3 ?_;clear hS;intro w hS|refine AF ?_;go_step|fail)
    all_goals (try exact AU)
    go_roundg (gk-1)
    case measure=>omega
    case rel=>
     rw [show 64+j-64=j by omega] at hS
     exact ⟨j+1,by omega,by go_num,by rw [←HFS.out];exact hS.sub Ad⟩
   obtain rfl:j=64:=by omega
   rw [show List.replicate 64 (1:Int)++List.replicate (64-64) (0:Int)=List.replicate 64 1 from rfl] at hS
   repeat' (first
    | refine X0 ?_|refine X2 ?_|refine AF ?_;go_step|fail)
   all_goals (try exact AU)
   repeat' (first
    | refine X1 ?_|refine OX ?_|refine AF ?_;go_step|fail)
   replace hS:=hS.nil 9 1
   go_loopg [8,39] i (fun gk ov kv w=>∃(t:Nat) (ao:Option Addr) (co:Nat) (D:Dk),gk+t=i∧ov= .slice ao t co∧kv= .int .i64 t∧D=Cl bst BG (L.take t)∧St w0 w [prt g27 [.ints D.b, .ints D.q],own 9 1 ao t co ((Bq bst BG (L.take t)).map Value.string)])
   case atStart=>exact ⟨0,none,0,BG,by omega,rfl,rfl,rfl,(show St w0 _ [prt g27 [.ints (List.replicate 64 0), .ints (List.replicate 64 1)],own 9 1 none 0 0 []] from hS.sub Ad)⟩
   case round=>
    clear hS
    obtain ⟨t,ao,co,D,ht,rfl,rfl,hD,hS⟩:=hrel
    have HD:=AC hD
    clear hD
    by_cases hlt3:t<i
    ·obtain ⟨s,hs⟩:∃s,L[t]? =some s:=⟨_,List.getElem?_eq_getElem (by rw [HLN.out];exact hlt3)⟩
     obtain ⟨bl,ol,rfl,hcl⟩:=HCELL.out t s hs
     have htk:L.take (t+1)=L.take t++[s]:=by rw [List.take_add_one,hs];rfl
     have hrn:=Lt bst (L.take t) s BG
     have hdn:=Jz bst (L.take t) s BG
     rw [←htk,←HD.out] at hrn hdn
     have hss:=HG.out.2 s (List.mem_of_getElem? hs)
     have hok:D.ok:=by rw [HD.out];exact JA bst _ M0
     have HC:=AC fun (w:World)(h:St w0 w (DK g27 D::[own 9 1 ao t co ((Bq bst BG (L.take t)).map Value.string)]))=>NO bst hbst h hok hL s hss
     have hrg:=Le bst D s
     obtain ⟨r,hr⟩:∃r,Am bst D s=r:=⟨_,rfl⟩
     rw [hr] at hrn hdn HC hrg
     obtain ⟨⟨a,E⟩,D2⟩:=r
     obtain ⟨R,hR⟩:∃R,(Bq bst BG (L.take t)).map Value.string=R:=⟨_,rfl⟩
     have hrn2:(Bq bst BG (L.take (t+1))).map Value.string=R++[.string (Fj ((a,E),D2))]:=by rw [hrn,List.map_append,hR];rfl
     rw [hR] at hS HC
     have HRN:=AC hrn2
     have HDN:=AC hdn
     dsimp only at hrg
     clear hrn hdn hR hr hs htk
     by_cases hE:E=0
     ·subst hE
      have hA:Fj ((a,0),D2)=a:=by unfold Fj;rfl
      rw [hA] at HRN
      repeat' (first
       | (refine Ar 10 ?_);refine As AA Tryz.call10 (HC.out _ (show St w0 _ [prt g27 [.ints D.b, .ints D.q],own 9 1 ao t co R] from hS.sub Ad)) ?_;rintro e w ⟨rfl,hS2⟩;clear hS;have hS:St w0 w [prt g27 [.ints D2.b, .ints D2.q],own 9 1 ao t co R]:=hS2;clear hS2;refine A2 ?_;go_step|refine X0 ?_|refine X2 ?_|refine LC 41 ?_|refine X9 ?_|refine LA ?_|refine Mm ?_|refine AF ?_;go_step|fail)
      all_goals (try exact AU)
      repeat' (first
       | refine X0 ?_|refine X4 ?_|refine OW 56 ?_;clear hS;intro g56 w hS|(refine AH 57 ?_);(refine At ?_;apply AY (o:=⟨some 57,_,_,_,_,_⟩) hS _ _ 22 rfl 9 1 16 EG _ _ _ _ rfl;(case hp=>exact AQ);(case hx=>exact rfl);(case hm=>(first|exact hS.slBlk AQ (by rfl) (by decide)|exact hS.sl AQ|with_reducible assumption|exact Sl.ext (by with_reducible assumption) hS.1|exact Sl.nil _ _|exact Sl.ext (by assumption) hS.1|assumption));(case h1=>(first|exact BJ rfl|(intro u hu;obtain ⟨x,_,rfl⟩:=List.mem_map.1 hu;rfl)));(case h63=>unfold maxLen;omega);(case hb=>omega);clear hS;intro ad57 c57 w hS;(first|simp only [B4] at hS|simp only [B5] at hS|simp only [B6] at hS|simp only [B7] at hS|simp only [B8] at hS|skip);refine AB ?_;go_step)|refine AF ?_;go_step|fail)
      go_roundg (gk-1)
      case measure=>omega
      case rel=>exact ⟨t+1,_,_,D2,by omega,rfl,by go_num,HDN.out.symm,by rw [HRN.out];exact hS.sub Ad⟩
     have hA:Fj ((a,E),D2)=E5 E:=by unfold Fj;rw [if_pos hE]
     rw [hA] at HRN
     have HI:=AC fun (w:World)(hx:AP w0 w)=>F6 w E (by omega) (hL.ext hx)
     have hIl:=LY E hrg
     have hEB:E5 E=⟨#[101,114,114,111,114,32]⟩++Aa E:=rfl
     rw [hEB] at HRN
     obtain ⟨I,hI⟩:∃I,Aa E=I:=⟨_,rfl⟩
     rw [hI] at HI HRN hIl
     have hsum:(⟨#[101,114,114,111,114,32]⟩:ByteArray).size+I.size≤1000000:=by show 6+I.size≤_;omega
     clear hI hEB hA
     repeat' (first
      | (refine Ar 10 ?_);refine As AA Tryz.call10 (HC.out _ (show St w0 _ [prt g27 [.ints D.b, .ints D.q],own 9 1 ao t co R] from hS.sub Ad)) ?_;rintro e w ⟨rfl,hS2⟩;clear hS;have hS:St w0 w [prt g27 [.ints D2.b, .ints D2.q],own 9 1 ao t co R]:=hS2;clear hS2;refine A2 ?_;go_step|(refine Ar 11 ?_);refine As AA Tryz.call11 (HI.out _ hS.1) (C9 hS ?_);clear hS;intro w hS;go_step|(refine AH 53 ?_);refine AR AA (V.addS rfl rfl hsum) ?_;go_step|refine X0 ?_|refine X2 ?_|refine LC 41 ?_|refine X9 ?_|refine LA ?_|refine X4 ?_|refine Mm ?_|refine OW 56 ?_;clear hS;intro g56 w hS|(refine AH 57 ?_);(refine At ?_;apply AY (o:=⟨some 57,_,_,_,_,_⟩) hS _ _ 22 rfl 9 1 16 EG _ _ _ _ rfl;(case hp=>exact AQ);(case hx=>exact rfl);(case hm=>(first|exact hS.slBlk AQ (by rfl) (by decide)|exact hS.sl AQ|with_reducible assumption|exact Sl.ext (by with_reducible assumption) hS.1|exact Sl.nil _ _|exact Sl.ext (by assumption) hS.1|assumption));(case h1=>(first|exact BJ rfl|(intro u hu;obtain ⟨x,_,rfl⟩:=List.mem_map.1 hu;rfl)));(case h63=>unfold maxLen;omega);(case hb=>omega);clear hS;intro ad57 c57 w hS;(first|simp only [B4] at hS|simp only [B5] at hS|simp only [B6] at hS|simp only [B7] at hS|simp only [B8] at hS|skip);refine AB ?_;go_step)|refine AF ?_;go_step|fail)
     all_goals (try exact AU)
     go_roundg (gk-1)
     case measure=>omega
     case rel=>exact ⟨t+1,_,_,D2,by omega,rfl,by go_num,HDN.out.symm,by rw [HRN.out];exact hS.sub Ad⟩
    obtain rfl:t=i:=by omega
    have htk:L.take t=L:=List.take_of_length_le (by rw [HLN.out];exact Nat.le_refl _)
    rw [htk] at hS
    repeat' (first
     | refine X0 ?_|refine X2 ?_|refine AF ?_;go_step|fail)
    all_goals (try exact AU)
    repeat' (first
     | refine AF ?_;go_step|fail)
    refine AJ (xs:=[_,_]) rfl (.cons (AD.tmp rfl) (.cons (AD.tmp rfl) (.nil))) (by simp) rfl ?_
    exact ⟨fun h=>absurd HG.out h,fun _=>⟨_,_,rfl,hS.sub Ad⟩⟩
theorem DL(bst:List Int→Int)(hbst:∀c C S,Mk c c.length C S→Av c c.length (lw (CA C S))=bst c)(w0:World)(hL:CM w0)(ad:Option Addr)(n c:Nat)(L:List ByteArray)(hv:Sl w0 1 (.slice ad n c) n (L.map Value.string))(hn:n≤9223372036854775807):Calls Tryz.prog 6 #[.slice ad n c] w0 (Fi bst w0 L n):=by
 by_cases h:n≤60
 ·exact Lw bst hbst w0 hL ad n c L hv h
 exact Nk bst w0 ad n c L (by have:=hv.1;simpa using this) (by omega) hn
theorem CQ{P:Program}{x:String×DataW Unit}{r:List (String×DataW Unit)}{w:World}(h:laidMet P (x::r) w):laidMet P r w:=by
 obtain ⟨ps,⟨g,t,cs,fuel,p,q,h1,h2,h3,h4,h5,rfl⟩,hnd,hall⟩:=h
 exact ⟨q,h5,(List.nodup_append.1 hnd).2.1,fun b off hm=>hall b off (List.mem_append_right _ hm)⟩
theorem KL{H:Type}{enc:TypeId×Value→H}{P:Program}{w:World}{base:Nat}{spare:Nat→Bool}{held:Bool}{r:TypeId→List Value→Option (DataW H×List MemPlace)}{t:TypeId}{cs:List Value}{nm:String}{d:DataW H}{p:List MemPlace}(h:DataW.trodStep enc P w base spare held r t cs=some (.iface nm d,p)):∃u v,cs=[.iface u v]:=by
 unfold DataW.trodStep at h
 split at h
 all_goals first
  | exact ⟨_,_,rfl⟩
  | exfalso;simp at h;done|exfalso;split at h<;>simp at h;done|exfalso;simp only [Option.map_eq_some_iff,Prod.mk.injEq] at h;obtain ⟨_,_,h1,_⟩:=h;cases h1;done|exfalso;split at h; · (simp only [Option.map_eq_some_iff,Option.bind_eq_some_iff,Prod.mk.injEq] at h;obtain ⟨_,_,h1,_⟩:=h;cases h1); · cases h|exfalso;split at h; · (simp only [Option.map_eq_some_iff,Option.bind_eq_some_iff,Prod.mk.injEq] at h;obtain ⟨_,_,_,_,h1,_⟩:=h;cases h1); · cases h|exfalso;dsimp only at h;split at h; · (obtain ⟨_,_,h1⟩:=Option.bind_eq_some_iff.1 h;obtain ⟨_,_,h2⟩:=Option.map_eq_some_iff.1 h1;cases h2); · cases h|exfalso;split at h; · (split at h; · (obtain ⟨_,_,h1⟩:=Option.bind_eq_some_iff.1 h;dsimp only at h1;split at h1; · cases h1; · cases h1); · cases h); · cases h
  | skip
 ·exfalso
  split at h
  ·obtain ⟨_,_,h1⟩:=Option.bind_eq_some_iff.1 h
   obtain ⟨_,_,h2⟩:=Option.map_eq_some_iff.1 h1
   cases h2
  cases h
 exfalso
 split at h
 ·split at h
  ·obtain ⟨_,_,h1⟩:=Option.bind_eq_some_iff.1 h
   dsimp only at h1
   split at h1
   ·cases h1
   cases h1
  cases h
 cases h
theorem F8{P:Program}{n:String}{tn:String}{d:DataW Unit}{r:List (String×DataW Unit)}{w:World}(h:laidMet P ((n, .iface tn d)::r) w){g:Nat}(hg:P.globalNamed n=some g):∃ev,w.cell? ⟨g,0,none⟩=some ev∧(ev= .nilIface∨∃te pe,ev= .iface te pe):=by
 obtain ⟨ps,⟨g',t,cs,fuel,p,q,h1,h2,h3,h4,h5,rfl⟩,hnd,hall⟩:=h
 obtain rfl:=Option.some.inj (hg.symm.trans h1)
 cases fuel with
 | zero=>simp [DataW.trod] at h4
 | succ m=>
   rw [DataW.trod_step] at h4
   obtain ⟨u,v,hcs⟩:=KL h4
   refine ⟨.iface u v,?_, .inr ⟨u,v,rfl⟩⟩
   rw [World.var?_cell hg h3,←Array.getElem?_toList,hcs]
   rfl
theorem F9{W:World}(h:laidMetH Tryz.prog Rows.deskSetRow.laid W):CM W:=by
 have h0:laidMet Tryz.prog Rows.deskSetRow.laid W:=by rw [←MakeChecks.laidMetH_plain _ _ _ AA];exact h
 have h3:=CQ (CQ h0)
 have h4:=CQ h3
 have h5:=CQ h4
 refine ⟨Lib.tabIs_of_head (g:=0) (t:=129) (e:=92) (n:=20) AA AA AA AA AA AA (k:= .u64) (zs:=Lib.pow10Tab) h3,F8 h5 AA,F8 h4 AA⟩
theorem V.neqE{P:Program}{ty t u:TypeId}{a:Act}{x y:Operand}{s r:ByteArray}(hx:a.eval x= .string s)(hy:a.eval y= .string r)(h:s=r):Bi P (.binOp .neq t x y u) ty a (.bool false):=by have:=V.neqS (P:=P) (ty:=ty) (t:=t) (u:=u) hx hy;rwa [show decide (s≠r)=false by rw [decide_eq_false_iff_not];exact fun k=>k h] at this
theorem Dj(w0:World)(a b:Option Addr)(n c d:Nat)(L:List ByteArray)(ha:Sl w0 1 (.slice a n c) n (L.map Value.string))(hb:Sl w0 1 (.slice b n d) n (L.map Value.string))(hn:n≤1000000):
 Calls Tryz.prog 7 #[.slice a n c, .slice b n d] w0 fun e w=>e= .returned (.bool true)∧AP w0 w:=by
 have hlx:L.length=n:=by have:=ha.1;simpa using this
 have HX:=AC hlx
 clear hlx
 have hS:=St.start w0
 go_enter Tryz.func7,Tryz.ntmps7
 repeat' (first
  | refine X0 ?_|refine OX ?_|refine Q1 ?_|refine AF ?_;go_step|fail)
 all_goals (try exact AU)
 repeat' (first
  | refine AF ?_;go_step|fail)
 go_loopg [14] n (fun gk kv w=>∃k:Nat,gk+k=n∧kv= .int .i64 k∧St w0 w [])
 case atStart=>exact ⟨0,rfl,rfl,hS.sub Ad⟩
 case round=>
  clear hS
  obtain ⟨k,hk,rfl,hS⟩:=hrel
  by_cases hlt:k<n
  ·obtain ⟨s,hs⟩:∃s,L[k]? =some s:=⟨_,List.getElem?_eq_getElem (by rw [HX.out];exact hlt)⟩
   obtain ⟨ba,oa,rfl,hca⟩:=BW ha (by omega)
   obtain ⟨bb,ob,rfl,hcb⟩:=BW hb (by omega)
   replace hca:=hca k (.string s) (by rw [List.getElem?_map,hs];rfl)
   replace hcb:=hcb k (.string s) (by rw [List.getElem?_map,hs];rfl)
   clear hs
   repeat' (first
    | (refine AH 24 ?_);refine AR AA (V.neqE rfl rfl rfl) ?_;go_step|refine X0 ?_|refine X2 ?_|refine LC 17 ?_|refine LC 22 ?_|refine X4 ?_|refine Mm ?_|refine AF ?_;go_step|fail)
   all_goals (try exact AU)
   go_roundg (gk-1)
   case measure=>omega
   case rel=>exact ⟨k+1,by omega,by go_num,hS.sub Ad⟩
  obtain rfl:k=n:=by omega
  repeat' (first
   | refine X8 ?_|refine X2 ?_|refine AF ?_;go_step|fail)
  all_goals (try exact AU)
  repeat' (first
   | refine AF ?_;go_step|fail)
  go_ret
  exact ⟨rfl,hS.1⟩
end Go.Proofs.YtngojkompmcceaaGreatDoor
namespace Go.Proofs.YtngojkompmcceaaGreatDoor
attribute [local irreducible] Region.wanted
open Go.ChangeShapes Go.WideShapes Go.ChangeAt Go.RowKit
set_option linter.unusedVariables false
set_option maxRecDepth 100000
set_option maxHeartbeats 8000000
theorem Nb{H:Type}{enc:TypeId×Value→H}{P:Program}{W:World}{base:Nat}{t:TypeId}{v:Value}{d:DataW H}{p:List MemPlace}(ht:P.underlying t=some (.int .i64))
 (ho:Value.okWide P W .any base t v) (h:DataW.Trod enc P W 0 (fun _=>true) true t v d p):∃n:Int,v= .int .i64 n∧ -9223372036854775808≤n∧n≤9223372036854775807:=by
 obtain ⟨n,rfl,rfl,rfl,wn⟩:=open_int ht ho h
 refine ⟨n,rfl,?_⟩
 have h:=wn
 simp only [Lit.wf,Bool.and_eq_true,decide_eq_true_eq] at h
 have h1:IntKind.i64.min= -9223372036854775808:=rfl
 have h2:IntKind.i64.max=9223372036854775807:=rfl
 omega
end Go.Proofs.YtngojkompmcceaaGreatDoor
namespace Go.Proofs.YtngojkompmcceaaGreatDoor
attribute [local irreducible] Region.wanted
open Go.ChangeShapes Go.WideShapes Go.ChangeAt Go.RowKit Go.Deep
set_option linter.unusedVariables false
set_option maxRecDepth 100000
set_option maxHeartbeats 8000000
end Go.Proofs.YtngojkompmcceaaGreatDoor
namespace Go.Proofs.YtngojkompmcceaaGreatDoor
attribute [local irreducible] Region.wanted
open Go.ChangeShapes Go.WideShapes Go.ChangeAt Go.RowKit
set_option linter.unusedVariables false
set_option maxRecDepth 100000
set_option maxHeartbeats 8000000
theorem Mu{H:Type}(d:DataW H):1≤Rows.uptoBulk d:=by
 cases d with
 | lit l=>cases l<;>simp [Rows.uptoBulk]
 | nil=>simp [Rows.uptoBulk]
 | ptr d=>simp [Rows.uptoBulk]
 | slice elems spare=>simp [Rows.uptoBulk]
 | agg parts=>simp [Rows.uptoBulk]
 | iface t d=>simp [Rows.uptoBulk]
 | map entries=>simp [Rows.uptoBulk]
 | held h=>simp [Rows.uptoBulk]
theorem Mt{H:Type}(l:List (DataW H)):l.length≤Rows.uptoBulkAll l:=by
 induction l with
 | nil=>simp [Rows.uptoBulkAll]
 | cons x r ih=>have:=Mu x;simp only [Rows.uptoBulkAll,List.length_cons];omega
theorem LG{H:Type}{d:DataW H}{l:List (DataW H)}(h:d∈l):Rows.uptoBulk d≤Rows.uptoBulkAll l:=by
 induction l with
 | nil=>cases h
 | cons x r ih=>
   simp only [Rows.uptoBulkAll]
   cases List.mem_cons.1 h with
   | inl e=>subst e;omega
   | inr e=>have:=ih e;omega
theorem II{H:Type}{d:DataW H}{l:List (DataW H)}(hk:Rows.uptoSmall H l=true)(h:d∈l):Rows.uptoBulk d≤1048576:=by
 have h1:Rows.uptoBulkAll l≤1048576:=of_decide_eq_true hk
 have:=LG h
 omega
theorem KI{H:Type}{enc:TypeId×Value→H}{P:Program}{W:World}{t e:TypeId}{ad:Option Addr}{n c:Nat}{d:DataW H}{p:List MemPlace}(ht:P.underlying t=some (.slice e))
 (h:DataW.Trod enc P W 0 (fun _=>true) true t (.slice ad n c) d p):n≤Rows.uptoBulk d:=by
 obtain ⟨fuel,h⟩:=h
 have hvc:(Value.slice ad n c).cells.toList=[.slice ad n c]:=rfl
 rw [hvc] at h
 rcases Go.Deep.open_slice ht h with ⟨h0,_⟩|⟨a,len,cap,m,k,D,Pl,hcs,_,_,_,_,hx,_⟩
 ·have:n=0:=by have h1:=h0;simp at h1;exact h1.2.1
  omega
 have e1:n=len:=by have h1:=hcs;simp at h1;exact h1.2.1
 have e2:d= .slice ((List.range len).map D) ((List.range (m-len)).map fun j=>D (len+j)):=(Prod.mk.inj hx).1
 rw [e2]
 simp only [Rows.uptoBulk]
 have:=Mt ((List.range len).map D)
 rw [List.length_map,List.length_range] at this
 omega
end Go.Proofs.YtngojkompmcceaaGreatDoor
