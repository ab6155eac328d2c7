/- What the laws DeskErrors need, part 10. -/
import Derived.Test.YtngojkompmcceaaGreatDoorBaseEZ2
import Derived.Test.YtngojkompmcceaaGreatDoorBaseEZ9
import Derived.Test.YtngojkompmcceaaGreatDoorRows
import Derived.MakeChecks
import Derived.ChangeBears2
import Derived.Lib.ItoaWalk
import Derived.Laws.RangeString
import Derived.Laws.Runes
import Derived.Laws.Slices
namespace Go.Proofs.YtngojkompmcceaaGreatDoor
attribute [local irreducible] Region.wanted
open Go.RowKit
set_option linter.unusedVariables false
set_option maxRecDepth 100000
set_option maxHeartbeats 8000000
def DK(g:Nat)(D:Dk):Af:=prt g [.ints D.b, .ints D.q]
def OD(l:List Int)(n:Nat):Prop:=∀i,i<n→ -9223372036854775808≤AG l i∧AG l i≤9223372036854775807
def NS(ad:Option Addr)(n c:Nat)(ns:List Int):Af:=own 3 1 ad n c (ns.map (Value.int .i64))
structure CI(W w:World)(rs:List Af)(g:Nat)(D:Dk)(ns:List Int)(ad:Option Addr)(n c:Nat):Prop where
 s:St W w (DK g D::NS ad n c ns::rs)
 ok:D.ok
 ln:n≤1000
 r:OD ns n
 L:CZ W
def CJ(W:World)(g:Nat)(r:(ByteArray×Int)×Dk)(rs:List Af)(e:Ending)(w:World):Prop:=e= .returned (.tuple #[.string r.1.1, .int .i64 r.1.2])∧St W w (DK g r.2::rs)
theorem At{W w:World}{g n c:Nat}{ad:Option Addr}{ns b q:List Int}{a:ByteArray}{er:Int}{rs:List Af}(h:St W w (prt g [.ints b, .ints q]::own 3 1 ad n c (ns.map (Value.int .i64))::rs)):CJ W g ((a,er),⟨b,q⟩) (NS ad n c ns::rs) (.returned (.tuple #[.string a, .int .i64 er])) w:=⟨rfl,h⟩
theorem Lc{W w:World}{rs:List Af}{g:Nat}{D:Dk}{ns:List Int}{ad:Option Addr}{n c:Nat}(h:CI W w rs g D ns ad n c)(hn:n=2):Calls Tryz.prog 17 #[.pointer (some ⟨g,0,none⟩), .slice ad n c] w (CJ W g (En D ns) (NS ad n c ns::rs)):=by
 subst hn
 have hS:=h.s
 unfold DK NS at hS
 have hb:=h.ok.b
 have hq:=h.ok.q
 have hr0:=h.r 0 (by omega)
 have hr1:=h.r 1 (by omega)
 obtain ⟨b,q⟩:=D
 dsimp only at hb hq hS
 obtain ⟨F,hF⟩:∃F,En ⟨b,q⟩ ns=F:=⟨_,rfl⟩
 rw [hF]
 unfold En at hF
 have HF:=AD hF
 obtain ⟨x0,rfl⟩:=BS (a:=ad) hS AS (by omega)
 clear h hF
 by_cases h1:AG ns 0<0∨63<AG ns 0
 ·have hFe:F=((nl,5),⟨b,q⟩):=by rw [←HF.out,if_pos h1]
  subst hFe
  go_enter Tryz.func17,Tryz.ntmps17
  repeat' (first
   | go_skip|((first|(with_reducible refine F2 ?_)|(with_reducible refine LA ?_));(first|go_big_want|go_step);go_step)|((with_reducible refine Al _ (.pick _ _ _) ?_);first|(refine Ag rfl AA ?_;go_step)|(refine AZ rfl AA ?_;go_step))|((refine AM 10 ?_);(refine Bz _ (V.lss rfl rfl) AA (fun hB=>?_) (fun hB=>?_)<;>(try exact Ak)<;>go_step))|((refine AM 8 ?_);(refine AY AA (V.indexSl Tryz.underlying46 BX rfl rfl (show Ar 0 0 from rfl) (by omega) (show 0*1=0 from rfl) Br) ?_;go_step))|((refine AM 13 ?_);(refine AY AA (V.indexSl Tryz.underlying46 BX rfl rfl (show Ar 0 0 from rfl) (by omega) (show 0*1=0 from rfl) Br) ?_;go_step))|((with_reducible refine Al _ (.binOp .gtr _ _ _ _) ?_);(refine AY AA (V.gtr rfl rfl) ?_;go_step))|((with_reducible refine Al _ (.load 3 _) ?_);(refine Aq ?_;apply C8 hS 3 _ rfl _ _ rfl (Ac rfl) _ _ _ _ _;(case hp=>exact AS);(case hi=>omega);refine AB ?_;go_step))|(refine AF ?_;go_step)|fail)
  all_goals (try exact Ak)
  all_goals
   refine AI (xs:=[_,_]) rfl (.cons (AC.tmp rfl) (.cons (AC.tmp rfl) (.nil))) (by simp) rfl ?_
   exact At (hS.sub Ae)
 by_cases h2:AG ns 1< -40000∨40000<AG ns 1
 ·have hFe:F=((nl,1),⟨b,q⟩):=by rw [←HF.out,if_neg h1,if_pos h2]
  subst hFe
  go_enter Tryz.func17,Tryz.ntmps17
  repeat' (first
   | go_skip|((first|(with_reducible refine F2 ?_)|(with_reducible refine LA ?_));(first|go_big_want|go_step);go_step)|((with_reducible refine Al _ (.pick _ _ _) ?_);first|(refine Ag rfl AA ?_;go_step)|(refine AZ rfl AA ?_;go_step))|((refine AM 10 ?_);(refine Bz _ (V.lss rfl rfl) AA (fun hB=>?_) (fun hB=>?_)<;>(try exact Ak)<;>go_step))|((refine AM 21 ?_);(refine Bz _ (V.lss rfl rfl) AA (fun hB=>?_) (fun hB=>?_)<;>(try exact Ak)<;>go_step))|((refine AM 8 ?_);(refine AY AA (V.indexSl Tryz.underlying46 BX rfl rfl (show Ar 0 0 from rfl) (by omega) (show 0*1=0 from rfl) Br) ?_;go_step))|((refine AM 13 ?_);(refine AY AA (V.indexSl Tryz.underlying46 BX rfl rfl (show Ar 0 0 from rfl) (by omega) (show 0*1=0 from rfl) Br) ?_;go_step))|((with_reducible refine Al _ (.binOp .gtr _ _ _ _) ?_);(refine AY AA (V.gtr rfl rfl) ?_;go_step))|((refine AM 19 ?_);(refine AY AA (V.indexSl Tryz.underlying46 BX rfl rfl (show Ar 1 1 from rfl) (by omega) (show 1*1=1 from rfl) Br) ?_;go_step))|((refine AM 24 ?_);(refine AY AA (V.indexSl Tryz.underlying46 BX rfl rfl (show Ar 1 1 from rfl) (by omega) (show 1*1=1 from rfl) Br) ?_;go_step))|((with_reducible refine Al _ (.load 3 _) ?_);(refine Aq ?_;apply C8 hS 3 _ rfl _ _ rfl (Ac rfl) _ _ _ _ _;(case hp=>exact AS);(case hi=>omega);refine AB ?_;go_step))|(refine AF ?_;go_step)|fail)
  all_goals (try exact Ak)
  all_goals
   refine AI (xs:=[_,_]) rfl (.cons (AC.tmp rfl) (.cons (AC.tmp rfl) (.nil))) (by simp) rfl ?_
   exact At (hS.sub Ae)
 have hFe:F=((OV,0),⟨b.set (AG ns 0).toNat (AG ns 1),q⟩):=by rw [←HF.out,if_neg h1,if_neg h2]
 subst hFe
 obtain ⟨k,hk⟩:∃k:Nat,AG ns 0=(k:Int):=⟨(AG ns 0).toNat,by omega⟩
 have hkt:(AG ns 0).toNat=k:=by omega
 have hk64:k<64:=by omega
 have HK:=AD hk
 go_enter Tryz.func17,Tryz.ntmps17
 repeat' (first
  | refine X0 ?_|refine Jc ?_|refine X4 10 ?_ ?_<;>intro hB<;>(try exact Ak)<;>go_step|refine X4 21 ?_ ?_<;>intro hB<;>(try exact Ak)<;>go_step|refine Pi 8 ?_|refine Pi 13 ?_|refine X9 ?_|(refine AM 19 ?_);(refine AY AA (V.indexSl Tryz.underlying46 BX rfl rfl (show Ar 1 1 from rfl) (by omega) (show 1*1=1 from rfl) Br) ?_;go_step)|(refine AM 24 ?_);(refine AY AA (V.indexSl Tryz.underlying46 BX rfl rfl (show Ar 1 1 from rfl) (by omega) (show 1*1=1 from rfl) Br) ?_;go_step)|refine Pz ?_|refine AF ?_;go_step|fail)
 all_goals (try exact Ak)
 refine AT [10] (fun w=>St W w [prt g [.ints b, .ints q],own 3 1 (some ⟨x0,0,none⟩) 2 c (ns.map (Value.int .i64))]) AA ?_
 replace hS:=hS.drew
 focus
  refine Ab 0 ?_
  refine Ab 1 ?_
  refine DH 2 CY (V.indexSl Tryz.underlying46 BX rfl rfl (show Ar 0 0 from rfl) (by omega) (show 0*1=0 from rfl) Br) ?_;go_step
  refine Y6 3 [9,10] ?_
  refine Ab 4 ?_
  refine DH 5 CY (V.indexSl Tryz.underlying46 BX rfl rfl (show Ar 1 1 from rfl) (by omega) (show 1*1=1 from rfl) Br) ?_;go_step
  refine Y6 6 [9,10] ?_
  refine DH 7 CY (V.nilCheck rfl) ?_;go_step
  refine DH 8 CY (V.fieldAddr FR rfl Br) ?_;go_step
  refine Y7 9 ?_
  refine CC 10 ?_
  (refine EA hS 3 _ _ rfl _ _ rfl (Ac rfl) _ _ AS _ (by rfl) (by (repeat (first|(apply DM.head;(case hn=>exact F1);(case h=>omega))|(apply DM.skipI;(case hn=>exact F1);(case h=>omega);(case ho=>rfl))|apply DM.skipV))) rfl ?_;clear hS;intro w hS)
  refine ⟨fun h=>absurd (by decide) h,?_⟩
  refine AL AA ?_ _
 all_goals
  repeat' (first|(refine AF ?_;go_step)|fail)
  repeat' (first
   | refine X7 ?_|refine AF ?_;go_step|fail)
  refine AI (xs:=[_,_]) rfl (.cons (AC.tmp rfl) (.cons (AC.tmp rfl) (.nil))) (by simp) rfl ?_
  exact At (hS.sub Ae)
theorem GT(n:Int)(i:Nat)(h:i<64):(List.replicate i n++List.replicate (64-i) 0).set i n=List.replicate (i+1) n++List.replicate (64-(i+1)) 0:=by
 obtain ⟨j,hj⟩:∃j,64-i=j+1:=⟨64-i-1,by omega⟩
 rw [hj,show 64-(i+1)=j by omega,List.set_append_right _ _ (by simp),List.length_replicate,Nat.sub_self,List.replicate_succ,List.set_cons_zero,List.replicate_succ',List.append_assoc]
 rfl
theorem H7{W w:World}{rs:List Af}{g:Nat}{D:Dk}{ns:List Int}{ad:Option Addr}{n c:Nat}(h:CI W w rs g D ns ad n c)(hn:n=1):Calls Tryz.prog 18 #[.pointer (some ⟨g,0,none⟩), .slice ad n c] w (CJ W g (BP D ns) (NS ad n c ns::rs)):=by
 subst hn
 have hS:=h.s
 unfold DK NS at hS
 have hb:=h.ok.b
 have hq:=h.ok.q
 have hr0:=h.r 0 (by omega)
 obtain ⟨b,q⟩:=D
 dsimp only at hb hq hS
 obtain ⟨x0,rfl⟩:=BS (a:=ad) hS AS (by omega)
 obtain ⟨v,hv⟩:∃v,AG ns 0=v:=⟨_,rfl⟩
 have HV:=AD hv
 obtain ⟨F,hF⟩:∃F,BP ⟨b,q⟩ ns=F:=⟨_,rfl⟩
 rw [hF]
 unfold BP at hF
 rw [hv] at hF hr0
 obtain ⟨Z,hZ⟩:∃Z,List.replicate 64 v=Z:=⟨_,rfl⟩
 have hzl:A2 Z 64:=hZ▸ A2.rep
 have hck:=fun w=>C5 w Z hzl
 rw [hZ] at hF
 obtain ⟨B,hB⟩:∃B,Kc Z=B:=⟨_,rfl⟩
 rw [hB] at hF hck
 have HCK:=AD hck
 have HZ:=AD hZ
 have HF:=AD hF
 clear h hF hv hck hB hZ
 go_enter Tryz.func18,Tryz.ntmps18
 repeat' (first
  | refine X0 ?_|refine K7 6 ?_;clear hS;intro g6 w hS|refine AF ?_;go_step|fail)
 go_loopg [9] 64 (fun gk kv w=>∃i:Nat,gk+i=64∧kv= .int .i64 i∧St W w (arr g6 64 (List.replicate i v++List.replicate (64-i) 0)::prt g [.ints b, .ints q]::own 3 1 (some ⟨x0,0,none⟩) 1 c (ns.map (Value.int .i64))::rs))
 case atStart=>exact ⟨0,rfl,rfl,by rw [show List.replicate 0 v++List.replicate (64-0) (0:Int)=List.replicate 64 0 from rfl];exact hS.sub Ae⟩
 case round=>
  clear hS
  obtain ⟨i,hi,rfl,hS⟩:=hrel
  by_cases hlt:i<64
  ·have hfs:=GT v i hlt
   obtain ⟨Y,hY⟩:∃Y,List.replicate i v++List.replicate (64-i) 0=Y:=⟨_,rfl⟩
   rw [hY] at hS hfs
   have HFS:=AD hfs
   clear hfs hY
   repeat' (first
    | refine X0 ?_|refine X3 ?_|refine Pi 14 ?_|refine QB 16 ?_|refine X5 ?_|refine Pz ?_|refine QS ?_;clear hS;intro w hS|refine AF ?_;go_step|fail)
   all_goals (try exact Ak)
   go_roundg (gk-1)
   case measure=>omega
   case rel=>exact ⟨i+1,by omega,by go_num,by rw [←HFS.out,←HV.out];exact hS.sub Ae⟩
  obtain rfl:i=64:=by omega
  rw [show List.replicate 64 v++List.replicate (64-64) 0=Z by rw [←HZ.out];simp] at hS
  repeat' (first
   | refine X3 ?_|refine AF ?_;go_step|fail)
  all_goals (try exact Ak)
  cases B with
  | true=>
    have hFe:F=((OV,0),⟨b,Z⟩):=by rw [←HF.out];rfl
    subst hFe
    repeat' (first
     | (with_reducible refine Al none _ ?_);refine Aq ?_;refine JU hS 33 _ _ rfl g 64 rfl 64 (Ad rfl) [.ints b, .ints q] [.ints b, .ints Z] [.ints Z] AS (KO Z) (Mf.skipI hb (by omega) rfl (Mf.head (B:=[.ints q]) (D:=[]) (by simp [AE,AO.cells,hq.out,hzl.out]))) (by simp [AE,AO.cells,hzl.out]) rfl rfl ?_;clear hS;intro w hS|(refine Av 38 ?_);refine Aw AA Tryz.call38 (HCK.out _) ?_;rintro e w ⟨rfl,hE⟩;replace hS:=hS.ext hE;clear hE;rw [if_pos rfl];refine A9 ?_;go_step|refine X0 ?_|refine J1 ?_|refine Oj ?_|(with_reducible refine Al _ (.fieldAddr 35 _ 1) ?_);(refine AY AA (V.fieldAddr G6 rfl Br) ?_;go_step)|refine Mi ?_|refine AF ?_;go_step|fail)
    all_goals (try exact Ak)
    refine AI (xs:=[_,_]) rfl (.cons (AC.tmp rfl) (.cons (AC.tmp rfl) (.nil))) (by simp) rfl ?_
    exact At (hS.sub Ae)
  | false=>
    have hFe:F=((nl,1),⟨b,q⟩):=by rw [←HF.out];rfl
    subst hFe
    repeat' (first
     | (refine Av 38 ?_);refine Aw AA Tryz.call38 (HCK.out _) ?_;rintro e w ⟨rfl,hE⟩;replace hS:=hS.ext hE;clear hE;rw [if_neg (by decide)];refine A9 ?_;go_step|refine X0 ?_|refine J1 ?_|refine Mi ?_|refine AF ?_;go_step|fail)
    all_goals (try exact Ak)
    refine AI (xs:=[_,_]) rfl (.cons (AC.tmp rfl) (.cons (AC.tmp rfl) (.nil))) (by simp) rfl ?_
    exact At (hS.sub Ae)
theorem PJ{W w:World}{rs rs':List Af}{g:Nat}{b q:List Int}(hS:St W w rs)(p:AK (prt g [.ints b, .ints q]) rs rs')(hb:A2 b 64):Sl w 1 (.slice (some ⟨g,0,none⟩) 8 64) 8 ((b.take 8).map (Value.int .i64)):=by
 refine ⟨by simp [hb.out],_,_,rfl,by decide,by decide, .inr ⟨g,0,rfl,fun k hk=>?_⟩⟩
 have hk8:k<8:=by omega
 rw [Nat.zero_add,(hS.blk p).1.cell]
 have e:AE [.ints b, .ints q]=b.map (Value.int .i64)++q.map (Value.int .i64):=by simp [AE,AO.cells]
 have e2:((b.take 8).map (Value.int .i64))[k]? =(b.map (Value.int .i64))[k]? :=by
  rw [List.getElem?_map,List.getElem?_map,List.getElem?_take,if_pos hk8]
 rw [e,e2]
 simp only [List.getElem?_toArray]
 rw [List.getElem?_append_left (by rw [List.length_map,hb.out];omega)]
theorem O0{b:List Int}(h:Bd 40000 b)(hb:A2 b 64):OD (b.take 8) 8:=fun i hi=>by
 have h1:=h i (by rw [hb.out];omega)
 have:AG (b.take 8) i=AG b i:=by simp [AG,List.getD,hi]
 rw [this];omega
theorem KJ{W w:World}{rs:List Af}{g:Nat}{D:Dk}{ns:List Int}{ad:Option Addr}{n c:Nat}(h:CI W w rs g D ns ad n c):Calls Tryz.prog 19 #[.pointer (some ⟨g,0,none⟩), .slice ad n c] w (CJ W g ((Bo (D.b.take 8),0),D) (NS ad n c ns::rs)):=by
 have hS:=h.s
 unfold DK NS at hS
 have hb:=h.ok.b
 have hq:=h.ok.q
 have hr8:=h.ok.r
 have hL:=h.L
 obtain ⟨b,q⟩:=D
 dsimp only at hb hq hS hr8⊢
 have HR8:=AD (O0 hr8 hb)
 clear h hr8
 go_enter Tryz.func19,Tryz.ntmps19
 repeat' (first
  | (refine AM 10 ?_);refine Ay (f:=39) Tryz.call39 AA ?_;refine ⟨_,(DT _ (some ⟨g,0,none⟩) 8 64 (b.take 8) (PJ hS AS hb) HR8.out (by decide) (hL.ext hS.1)),?_⟩;rintro e w ⟨rfl,hE⟩;replace hS:=hS.ext hE;clear hE;refine A9 ?_;go_step|refine X0 ?_|refine Oj ?_|refine PX ?_|refine Ok ?_|refine AF ?_;go_step|fail)
 refine AI (xs:=[_,_]) rfl (.cons (AC.tmp rfl) (.cons (AC.tmp rfl) (.nil))) (by simp) rfl ?_
 exact At (hS.sub Ae)
theorem Fq:∀(l:List Int)(r:Nat),(∀x∈l,-2047≤x∧x≤2047)→∀t∈JO r l,0≤t.1∧t.1<256
 | [],r,_,t,ht=>by
   unfold JO at ht
   split at ht
   ·simp at ht;subst ht;decide
   simp at ht
 | n::l,r,h,t,ht=>by
   unfold JO at ht
   split at ht
   ·exact Fq l (r+1) (fun x hx=>h x (by simp [hx])) t ht
   rcases List.mem_append.1 ht with ht|ht
   ·rw [List.eq_of_mem_replicate ht];decide
   rcases List.mem_cons.1 ht with rfl|ht
   ·have h1:=Ni n (by have:=h n (by simp);omega)
    unfold JP
    dsimp only
    omega
   exact Fq l 0 (fun x hx=>h x (by simp [hx])) t ht
theorem Kr{p:Int}{x:List Int}(hx:x.length=64):∀t∈D7 p x,0≤t.1∧t.1<256:=by
 intro t ht
 unfold D7 at ht
 split at ht
 ·rename_i h
  obtain ⟨h1,h2⟩:=Jq hx h
  have hz:∀i,i<64→ -2047≤AG (Er x) i∧AG (Er x) i≤2047:=fun i hi=>by rw [Ht _ i hi];exact h2 _ (Jz i hi)
  unfold Cl at ht
  rcases List.mem_cons.1 ht with rfl|ht
  ·have:=hz 0 (by omega)
   have h3:=Jp (AG (Er x) 0-p) (by omega)
   unfold JP
   dsimp only
   omega
  refine Fq _ 0 (fun y hy=>?_) t ht
  obtain ⟨i,hi,rfl⟩:=List.mem_iff_getElem.1 (List.mem_of_mem_drop hy)
  have:=hz i (by rw [←CB x];exact hi)
  simpa [AG,List.getD,hi] using this
 simp at ht
theorem ML{p:Int}{x:List Int}(hx:x.length=64):(D7 p x).length≤64:=by
 unfold D7
 split
 ·exact (MM p (Er x) (CB x)).2
 simp
theorem H9{W w:World}{rs:List Af}{g:Nat}{D:Dk}{ns:List Int}{ad:Option Addr}{n c:Nat}(h:CI W w rs g D ns ad n c):Calls Tryz.prog 20 #[.pointer (some ⟨g,0,none⟩), .slice ad n c] w (CJ W g ((Bo ((D7 0 D.b).map (·.1)),EW 0 D.b),D) (NS ad n c ns::rs)):=by
 have hS:=h.s
 unfold DK NS at hS
 have hb:=h.ok.b
 have hq:=h.ok.q
 have hL:=h.L
 obtain ⟨b,q⟩:=D
 dsimp only at hb hq hS⊢
 have HTK:=AD fun (w:World)=>Hn w 0 b hb
 have hm:(D7 0 b).length≤64:=ML hb
 have hsy:=Kr (p:=0) hb
 obtain ⟨T,hT⟩:∃T,D7 0 b=T:=⟨_,rfl⟩
 obtain ⟨E,hE⟩:∃E,EW 0 b=E:=⟨_,rfl⟩
 obtain ⟨m,hmm⟩:∃m,T.length=m:=⟨_,rfl⟩
 rw [hT,hE,hmm] at HTK
 rw [hT,hmm] at hm
 rw [hT] at hsy
 rw [hT,hE]
 have HM:=AD hmm
 have HSY:=AD hsy
 obtain ⟨Y,hY⟩:∃Y,T.map (·.1)=Y:=⟨_,rfl⟩
 rw [hY]
 have HY:=AD hY
 clear h hT hE hmm hsy hY
 go_enter Tryz.func20,Tryz.ntmps20
 repeat' (first
  | (refine Av 40 ?_);refine Aw AA Tryz.call40 (HTK.out _) ?_;rintro e w ⟨a1,c1,rfl,hS2⟩;replace hS:=hS.call1 hS2;clear hS2;refine A9 ?_;go_step|refine X0 ?_|refine Oj ?_|refine PX ?_|refine X8 ?_|(with_reducible refine Al _ (.call ⟨.builtin .len,_,_⟩) ?_);(refine AY AA (V.len Tryz.underlying68 rfl) ?_;go_step)|refine P0 ?_|refine AF ?_;go_step|fail)
 replace hS:=hS.nilk 3 1 .i64
 go_loopg [8,21] m (fun gk ov kv w=>∃(i:Nat) (ao:Option Addr) (co:Nat),gk+i=m∧ov= .slice ao i co∧kv= .int .i64 i∧St W w (own 3 1 ao i co (((T.take i).map (·.1)).map (Value.int .i64))::own 72 3 a1 m c1 ((F0 T).map (Value.int .i64))::prt g [.ints b, .ints q]::own 3 1 ad n c (ns.map (Value.int .i64))::rs))
 case atStart=>exact ⟨0,none,0,by omega,rfl,rfl,by rw [show (T.take 0).map (·.1)=([]:List Int) by rw [List.take_zero];rfl];exact hS.sub Ae⟩
 case round=>
  clear hS
  obtain ⟨i,ao,co,hi,rfl,rfl,hS⟩:=hrel
  by_cases hlt:i<m
  ·obtain ⟨b5,rfl⟩:=BS (a:=a1) hS AS (by omega)
   obtain ⟨⟨s,v,y⟩,hx⟩:∃x,T[i]? =some x:=⟨_,List.getElem?_eq_getElem (by rw [HM.out];exact hlt)⟩
   have hseg:=Jh T i _ hx
   have hsy:=HSY.out _ (List.mem_of_getElem? hx)
   dsimp only at hseg hsy
   have ht:(T.take (i+1)).map (·.1)=(T.take i).map (·.1)++[s]:=by rw [List.take_add_one,hx,List.map_append];rfl
   have HTK:=AD ht
   clear hx ht
   repeat' (first
    | refine X0 ?_|refine X3 ?_|(refine AM 23 ?_);(refine AY AA (V.indexSl Tryz.underlying68 PE rfl rfl BW (by omega) rfl Br) ?_;go_step)|(with_reducible refine Al _ (.fieldAddr 72 _ 0) ?_);(refine AY AA (V.fieldAddr OO rfl Br) ?_;go_step)|refine X5 ?_|(with_reducible refine Al _ (.load 72 _) ?_);(refine Aq ?_;apply Fw hS 72 _ rfl _ _ rfl 3 (Ad rfl) _ _ _ _ _;(case hp=>exact AS);(case hi=>omega);(case hl'=>with_reducible assumption);refine AB ?_;go_step)|(refine AM 10 ?_);(refine Aq ?_;apply CU (o:=⟨some 10,_,_,_,_,_⟩) hS 72 rfl (.agg #[.int .i64 0, .int .i64 0, .int .i64 0]) [.int .i64 0, .int .i64 0, .int .i64 0] (fun w=>Tryz.zeroValue72 w) rfl;clear hS;intro g10 w hS;refine AB ?_;go_step)|refine QU ?_;clear hS;intro w hS|refine PZ ?_|refine PS 28 ?_;clear hS;intro g28 w hS|refine PU 29 ?_;clear hS;intro ad29 c29 w hS|refine AF ?_;go_step|fail)
   all_goals (try exact Ak)
   go_roundg (gk-1)
   case measure=>omega
   case rel=>exact ⟨i+1,_,_,by omega,rfl,by go_num,by rw [HTK.out];exact hS.sub Ae⟩
  obtain rfl:i=m:=by omega
  have htk:T.take i=T:=List.take_of_length_le (by rw [HM.out];exact Nat.le_refl _)
  rw [htk,HY.out] at hS
  have hYr:OD Y i:=fun k hk=>by
   rw [←HY.out]
   have hkT:k<T.length:=by rw [HM.out];exact hk
   have e:AG (T.map (·.1)) k=T[k].1:=by simp [AG,List.getD,hkT]
   have:=HSY.out _ (List.getElem_mem hkT)
   rw [e];omega
  have HTL:=AD (DT wr ao i co Y (hS.sl (a:=ao) (s:=1) AS) hYr (by omega) (hL.ext hS.1))
  clear htk hYr
  repeat' (first
   | refine X1 ?_|refine X3 ?_|refine AF ?_;go_step|fail)
  all_goals (try exact Ak)
  repeat' (first
   | (refine Av 39 ?_);refine Aw AA Tryz.call39 (HTL.out) (Dj hS ?_);clear hS;intro w hS;go_step|refine X0 ?_|refine AF ?_;go_step|fail)
  refine AI (xs:=[_,_]) rfl (.cons (AC.tmp rfl) (.cons (AC.tmp rfl) (.nil))) (by simp) rfl ?_
  exact At (hS.sub Ae)
structure Ou(K:FuncId)(R:Dk→List Int)(E:Dk→Int):Prop where
 call:∀(args:Array Value)(w:World),(callFunc K args).run Tryz.prog w= .ok (.enter K args) w
 len:∀D:Dk,D.ok→A2 (R D) 64
 run:∀(W w:World)(rs:List Af)(g:Nat)(D:Dk),St W w (DK g D::rs)→D.ok→Calls Tryz.prog K #[.pointer (some ⟨g,0,none⟩)] w fun e w'=>e= .returned (.tuple #[.agg (iv (R D)), .int .i64 (E D)])∧St W w' (DK g D::rs)
theorem Gu{K:FuncId}{R:Dk→List Int}{E:Dk→Int}(hK:Ou K R E){W w:World}{rs:List Af}{g gb:Nat}{D:Dk}{ns:List Int}{ad:Option Addr}{n c:Nat}(h:CI W w (blk gb [.func (.func K) #[] #[]]::rs) g D ns ad n c):
 Calls Tryz.prog 41 #[.pointer (some ⟨g,0,none⟩), .slice ad n c, .pointer (some ⟨gb,0,none⟩)] w (CJ W g (Io D (R D) (E D)) (NS ad n c ns::blk gb [.func (.func K) #[] #[]]::rs)):=by
 have hS:=h.s
 have hR:=hK.len D h.ok
 have HK:=AD hK.call
 have HC:=AD fun (w:World)(rs:List Af)(hS:St W w (DK g D::rs))=>hK.run W w rs g D hS h.ok
 have hb:=h.ok.b
 have hq:=h.ok.q
 obtain ⟨b,q⟩:=D
 obtain ⟨RR,hRR⟩:∃X,R ⟨b,q⟩=X:=⟨_,rfl⟩
 obtain ⟨EE,hEE⟩:∃X,E ⟨b,q⟩=X:=⟨_,rfl⟩
 rw [hRR,hEE] at HC⊢
 rw [hRR] at hR
 unfold DK NS at hS
 unfold DK at HC
 dsimp only at hb hq hS HC
 obtain ⟨F,hF⟩:∃F,Io ⟨b,q⟩ RR EE=F:=⟨_,rfl⟩
 rw [hF]
 unfold Io at hF
 have HF:=AD hF
 clear h hK hF hRR hEE
 by_cases hE:EE=0
 case neg=>
  have hFe:F=((nl,EE),⟨b,q⟩):=by rw [←HF.out,if_pos hE]
  subst hFe
  clear HF
  go_enter Tryz.func41,Tryz.ntmps41
  repeat' (first
   | (refine AM 14 ?_);refine Aq ?_;refine BT (o:=⟨some 14,_,_,_,_,_⟩) (f:=K) rfl rfl HK.out (HC.out _ _ (hS.sub Ae)) ?_;clear hS;rintro e w ⟨rfl,hS⟩;refine A9 ?_;go_step|refine X0 ?_|refine X8 ?_|refine J1 ?_|refine QW ?_|refine K7 7 ?_;clear hS;intro g7 w hS|refine LN ?_;clear hS;intro w hS|refine AF ?_;go_step|fail)
  all_goals (try exact Ak)
  refine AI (xs:=[_,_]) rfl (.cons (AC.tmp rfl) (.cons (AC.tmp rfl) (.nil))) (by simp) rfl ?_
  exact At (hS.sub Ae)
 subst hE
 have hFe:F=((OV,0),⟨C1 RR,q⟩):=by rw [←HF.out];rfl
 subst hFe
 clear HF
 go_enter Tryz.func41,Tryz.ntmps41
 repeat' (first
  | (refine AM 14 ?_);refine Aq ?_;refine BT (o:=⟨some 14,_,_,_,_,_⟩) (f:=K) rfl rfl HK.out (HC.out _ _ (hS.sub Ae)) ?_;clear hS;rintro e w ⟨rfl,hS⟩;refine A9 ?_;go_step|refine X0 ?_|refine X8 ?_|refine J1 ?_|refine QW ?_|refine K7 7 ?_;clear hS;intro g7 w hS|refine LN ?_;clear hS;intro w hS|refine AF ?_;go_step|fail)
 all_goals (try exact Ak)
 repeat' (first
  | refine X1 ?_|refine Mi ?_|refine AF ?_;go_step|fail)
 go_loopg [21] 64 (fun gk kv w=>∃(i:Nat) (X:List Int),gk+i=64∧kv= .int .i64 i∧A2 X 64∧(∀j,j<i→AG X j=min (max (AG RR j) (-40000)) 40000)∧St W w (prt g [.ints X, .ints q]::own 3 1 ad n c (ns.map (Value.int .i64))::blk gb [.func (.func K) #[] #[]]::rs))
 case atStart=>exact ⟨0,b,rfl,rfl,hb,fun j hj=>by omega,hS.sub Ae⟩
 case round=>
  clear hS
  obtain ⟨i,X,hi,rfl,hX,hXv,hS⟩:=hrel
  have HXV:=AD hXv
  clear hXv
  by_cases hlt:i<64
  ·repeat' (first
    | refine X0 ?_|refine X3 ?_|refine QY 24 ?_|refine AF ?_;go_step|fail)
   all_goals (try exact Ak)
   refine AT [] (fun _=>True) AA ?_
   replace hS:=hS.drew
   focus
    refine Ab 0 ?_
    refine Ab 1 ?_
    refine Ab 2 ?_
    refine DH 4 CY (V.nilCheck rfl) ?_;go_step
    refine DH 5 CY (V.fieldAddr FR rfl Br) ?_;go_step
    refine CC 3 ?_
    refine BN (f:=42) rfl Tryz.call42 (D8 _ 40000 _ (by omega) (by omega)) ?_;rintro e w' ⟨rfl,rfl⟩;refine ⟨_,rfl,?_⟩
    refine Qd ?_;go_step
    refine Y7 6 ?_
    refine CC 7 ?_
    (refine EA hS 3 _ _ rfl _ _ rfl (Ac rfl) _ _ AS _ (by rfl) (by (repeat (first|(apply DM.head;(case hn=>exact F1);(case h=>omega))|(apply DM.skipI;(case hn=>exact F1);(case h=>omega);(case ho=>rfl))|apply DM.skipV))) rfl ?_;clear hS;intro w hS)
    refine ⟨fun _ h=>h,?_⟩
    refine AL AA ?_ _
   all_goals
    repeat' (first|(refine AF ?_;go_step)|fail)
    repeat' (first
     | refine X1 ?_|refine X5 ?_|refine AF ?_;go_step|fail)
    go_roundg (gk-1)
    case measure=>omega
    case rel=>
     refine ⟨i+1,_,by omega,by go_num,?_,?_,hS.sub Ae⟩
     ·exact A2.set hX
     intro j hj
     rw [EM X i j _ (by rw [hX.out];exact hlt)]
     split
     ·rename_i e;subst e;rfl
     exact HXV.out j (by have h9:j<i+1:=hj;omega)
  obtain rfl:i=64:=by omega
  have hXe:X=C1 RR:=IN (by rw [Dy,hX.out,hR.out]) fun j hj=>by
   rw [hX.out] at hj
   rw [HXV.out j hj]
   have hjl:j<RR.length:=by rw [hR.out];exact hj
   simp [C1,AG,List.getD,hjl]
  subst hXe
  repeat' (first
   | refine X7 ?_|refine X3 ?_|refine AF ?_;go_step|fail)
  all_goals (try exact Ak)
  repeat' (first
   | refine AF ?_;go_step|fail)
  refine AI (xs:=[_,_]) rfl (.cons (AC.tmp rfl) (.cons (AC.tmp rfl) (.nil))) (by simp) rfl ?_
  exact At (hS.sub Ae)
theorem O2:Ou 22 (fun D=>Pq D.b) (fun D=>MV D.b):=by
 refine ⟨Tryz.call22,fun D hD=>Cf _ _,fun W w rs g D hS hD=>?_⟩
 have hb:=hD.b
 have hq:=hD.q
 obtain ⟨b,q⟩:=D
 unfold DK at hS⊢
 dsimp only at hb hq hS⊢
 obtain ⟨RR,hRR⟩:∃X,Pq b=X:=⟨_,rfl⟩
 have hRl:A2 RR 64:=hRR▸ Cf _ _
 have HC:=AD fun (w:World)=>Nn w b hb
 rw [hRR] at HC⊢
 clear hRR hD
 go_enter Tryz.func22,Tryz.ntmps22
 repeat' (first
  | (refine Av 23 ?_);refine Aw AA Tryz.call23 (HC.out _) (Dj hS ?_);clear hS;intro w hS;go_step|refine X0 ?_|refine Oj ?_|refine PX ?_|refine X8 ?_|refine K7 2 ?_;clear hS;intro g2 w hS|refine P0 ?_|refine LN ?_;clear hS;intro w hS|refine AF ?_;go_step|fail)
 refine AI (xs:=[_,_]) rfl (.cons (AC.arr hS rfl (Ad (n:=64) rfl) AS) (.cons (AC.tmp rfl) (.nil))) (by simp) rfl ?_
 exact ⟨rfl,hS.sub Ae⟩
theorem O3:Ou 24 (fun D=>Jt D.b) (fun D=>MV D.b):=by
 refine ⟨Tryz.call24,fun D hD=>Cf _ _,fun W w rs g D hS hD=>?_⟩
 have hb:=hD.b
 have hq:=hD.q
 obtain ⟨b,q⟩:=D
 unfold DK at hS⊢
 dsimp only at hb hq hS⊢
 obtain ⟨RR,hRR⟩:∃X,Jt b=X:=⟨_,rfl⟩
 have hRl:A2 RR 64:=hRR▸ Cf _ _
 have HC:=AD fun (w:World)=>Ks w b hb
 rw [hRR] at HC⊢
 clear hRR hD
 go_enter Tryz.func24,Tryz.ntmps24
 repeat' (first
  | (refine Av 25 ?_);refine Aw AA Tryz.call25 (HC.out _) (Dj hS ?_);clear hS;intro w hS;go_step|refine X0 ?_|refine Oj ?_|refine PX ?_|refine X8 ?_|refine K7 2 ?_;clear hS;intro g2 w hS|refine P0 ?_|refine LN ?_;clear hS;intro w hS|refine AF ?_;go_step|fail)
 refine AI (xs:=[_,_]) rfl (.cons (AC.arr hS rfl (Ad (n:=64) rfl) AS) (.cons (AC.tmp rfl) (.nil))) (by simp) rfl ?_
 exact ⟨rfl,hS.sub Ae⟩
theorem O4:Ou 26 (fun D=>By D.b D.q) (fun D=>EG D.b D.q):=by
 refine ⟨Tryz.call26,fun D hD=>Cp _ _ hD.b hD.q,fun W w rs g D hS hD=>?_⟩
 have hb:=hD.b
 have hq:=hD.q
 obtain ⟨b,q⟩:=D
 unfold DK at hS⊢
 dsimp only at hb hq hS⊢
 obtain ⟨RR,hRR⟩:∃X,By b q=X:=⟨_,rfl⟩
 have hRl:A2 RR 64:=hRR▸ Cp _ _ hb hq
 have HC:=AD fun (w:World)=>Lb w b q hb hq
 rw [hRR] at HC⊢
 clear hRR hD
 go_enter Tryz.func26,Tryz.ntmps26
 repeat' (first
  | refine X7 ?_|refine K7 2 ?_;clear hS;intro g2 w hS|refine AF ?_;go_step|fail)
 refine AT [8,11] (fun w=>St W w [prt g [.ints b, .ints q]]) AA ?_
 replace hS:=hS.drew
 focus
  refine Ab 0 ?_
  refine DH 1 CY (V.nilCheck rfl) ?_;go_step
  refine DH 2 CY (V.fieldAddr FR rfl Br) ?_;go_step
  refine Y8 3 [8,9,10,11,12] ?_
  refine Ab 4 ?_
  refine DH 5 CY (V.nilCheck rfl) ?_;go_step
  refine DH 6 CY (V.fieldAddr G6 rfl Br) ?_;go_step
  refine Y8 7 [8,9,10,11,12] ?_
  refine CC 8 ?_
  refine BN (f:=27) rfl Tryz.call27 (HC.out _) ?_;rintro e w ⟨rfl,hE⟩;replace hS:=hS.ext hE;clear hE;refine ⟨_,rfl,?_⟩
  refine ⟨fun h=>absurd (by decide) h,?_⟩
  refine AJ ?_
  go_step
  refine Y1 9 ?_
  refine Y1 10 ?_
  refine CC 11 ?_
  refine QZ ?_;clear hS;intro w hS
  refine Ab 12 ?_
  refine AL AA ?_ _
 all_goals
  repeat' (first|(refine AF ?_;go_step)|fail)
  refine AI (xs:=[_,_]) rfl (.cons (AC.arr hS rfl (Ad (n:=64) rfl) AS) (.cons (AC.tmp rfl) (.nil))) (by simp) rfl ?_
  exact ⟨rfl,hS.sub Ae⟩
theorem O5:Ou 28 (fun D=>Ii D.b D.q) (fun D=>Nl D.b D.q):=by
 refine ⟨Tryz.call28,fun D hD=>EX _ _ hD.b hD.q,fun W w rs g D hS hD=>?_⟩
 have hb:=hD.b
 have hq:=hD.q
 obtain ⟨b,q⟩:=D
 unfold DK at hS⊢
 dsimp only at hb hq hS⊢
 obtain ⟨RR,hRR⟩:∃X,Ii b q=X:=⟨_,rfl⟩
 have hRl:A2 RR 64:=hRR▸ EX _ _ hb hq
 have HC:=AD fun (w:World)=>OZ w b q hb hq
 rw [hRR] at HC⊢
 clear hRR hD
 go_enter Tryz.func28,Tryz.ntmps28
 repeat' (first
  | refine X7 ?_|refine K7 2 ?_;clear hS;intro g2 w hS|refine AF ?_;go_step|fail)
 refine AT [8,11] (fun w=>St W w [prt g [.ints b, .ints q]]) AA ?_
 replace hS:=hS.drew
 focus
  refine Ab 0 ?_
  refine DH 1 CY (V.nilCheck rfl) ?_;go_step
  refine DH 2 CY (V.fieldAddr FR rfl Br) ?_;go_step
  refine Y8 3 [8,9,10,11,12] ?_
  refine Ab 4 ?_
  refine DH 5 CY (V.nilCheck rfl) ?_;go_step
  refine DH 6 CY (V.fieldAddr G6 rfl Br) ?_;go_step
  refine Y8 7 [8,9,10,11,12] ?_
  refine CC 8 ?_
  refine BN (f:=29) rfl Tryz.call29 (HC.out _) ?_;rintro e w ⟨rfl,hE⟩;replace hS:=hS.ext hE;clear hE;refine ⟨_,rfl,?_⟩
  refine ⟨fun h=>absurd (by decide) h,?_⟩
  refine AJ ?_
  go_step
  refine Y1 9 ?_
  refine Y1 10 ?_
  refine CC 11 ?_
  refine QZ ?_;clear hS;intro w hS
  refine Ab 12 ?_
  refine AL AA ?_ _
 all_goals
  repeat' (first|(refine AF ?_;go_step)|fail)
  refine AI (xs:=[_,_]) rfl (.cons (AC.arr hS rfl (Ad (n:=64) rfl) AS) (.cons (AC.tmp rfl) (.nil))) (by simp) rfl ?_
  exact ⟨rfl,hS.sub Ae⟩
theorem Cq{x:Int}{l:List Int}{n:Nat}(hx: -9223372036854775808≤x∧x≤9223372036854775807)(h:OD l n):OD (x::l) (n+1):=fun i hi=>by
 cases i with
 | zero=>exact hx
 | succ i=>exact h i (by omega)
theorem FB:OD [] 0:=fun i hi=>by omega
theorem PK(n:Int)(h: -4096<n∧n<4096): -9223372036854775808≤sv n∧sv n≤9223372036854775807:=by
 have h1:=Jp n h
 have h2:2^sz n≤2^12:=Nat.pow_le_pow_right (by omega) h1
 unfold sv
 split<;>omega
theorem Iy{W w:World}{rs:List Af}{g:Nat}{D:Dk}{ns:List Int}{ad:Option Addr}{n c:Nat}(h:CI W w rs g D ns ad n c)(hn:n=1):Calls Tryz.prog 30 #[.pointer (some ⟨g,0,none⟩), .slice ad n c] w (CJ W g (C6 (AG ns 0),D) (NS ad n c ns::rs)):=by
 subst hn
 have hS:=h.s
 unfold DK NS at hS
 have hr0:=h.r 0 (by omega)
 have hL:=h.L
 obtain ⟨b,q⟩:=D
 dsimp only at hS
 obtain ⟨x0,rfl⟩:=BS (a:=ad) hS AS (by omega)
 obtain ⟨u,hu⟩:∃u,AG ns 0=u:=⟨_,rfl⟩
 rw [hu] at hr0
 have key:∃(A B E:Int),(C6 u=(Bo [A,B],E))∧(-9223372036854775808≤A∧A≤9223372036854775807)∧(-9223372036854775808≤B∧B≤9223372036854775807)∧∀w,Calls Tryz.prog 50 #[.int .i64 u] w fun e w'=>e= .returned (.tuple #[.int .i64 A, .int .i64 B, .int .i64 E])∧AP w w':=by
  by_cases hx: -4096<u∧u<4096
  ·have:=Jp u hx
   exact ⟨(sz u:Int),sv u,0,by unfold C6;rw [if_pos hx],by omega,PK u hx,fun w=>(ER u w hx.1 hx.2).mono fun e w' ⟨h1,h2⟩=>⟨h1,h2▸ AP.refl _⟩⟩
  exact ⟨0,0,1,by unfold C6;rw [if_neg hx],by omega,by omega,fun w=>Hh u w (by omega)⟩
 obtain ⟨A,B,E,k1,k2,k3,k4⟩:=key
 have HC:=AD k4
 have HI:=AD (Cq k2 (Cq k3 FB))
 rw [hu,k1]
 have HU:=AD hu
 rw [←HU.out] at HC
 clear h k1 k2 k3 k4 hu
 go_enter Tryz.func30,Tryz.ntmps30
 repeat' (first
  | (refine Av 50 ?_);refine Aw AA Tryz.call50 (HC.out _) (Dj hS ?_);clear hS;intro w hS;go_step|(refine Av 39 ?_);refine Aw AA Tryz.call39 (DT _ (some ⟨g19,0,none⟩) 2 2 [A,B] (hS.slBlk (cs:=[Value.int .i64 A,Value.int .i64 B]) (n:=2) (s:=1) AS rfl (by decide)) HI.out (by decide) (hL.ext hS.1)) (Dj hS ?_);clear hS;intro w hS;go_step|refine X0 ?_|refine Pi 11 ?_|refine X8 ?_|refine Pz ?_|(refine AM 19 ?_);(refine Aq ?_;apply Aj (o:=⟨some 19,_,_,_,_,_⟩) hS 46 2 _ rfl 3 1 8 Ld _ _;(case hvs=>(repeat (first|exact AX.nil|(apply AX.agg;(rfl);(rfl))|(apply AX.one;exact Dz;(rfl);(rfl)))));(case hn=>rfl);(case hn0=>decide);(case hns=>decide);clear hS;intro g19 w hS;refine AB ?_;go_step)|refine AF ?_;go_step|fail)
 refine AI (xs:=[_,_]) rfl (.cons (AC.tmp rfl) (.cons (AC.tmp rfl) (.nil))) (by simp) rfl ?_
 exact At (hS.sub Ae)
structure LJ(K:FuncId)(f1 f2 f3:Int→Int→Int→Int):Prop where
 call:∀(args:Array Value)(w:World),(callFunc K args).run Tryz.prog w= .ok (.enter K args) w
 bd:∀x y z,(0≤f1 x y z∧f1 x y z≤255)∧(0≤f2 x y z∧f2 x y z≤255)∧(0≤f3 x y z∧f3 x y z≤255)
 good:∀x y z w,(BA x&&BA y&&BA z)=true→Calls Tryz.prog K #[.int .i64 x, .int .i64 y, .int .i64 z] w fun e w'=>e= .returned (.tuple #[.int .i64 (f1 x y z), .int .i64 (f2 x y z), .int .i64 (f3 x y z), .int .i64 0])∧AP w w'
 bad:∀x y z w,(BA x&&BA y&&BA z)=false→Calls Tryz.prog K #[.int .i64 x, .int .i64 y, .int .i64 z] w fun e w'=>e= .returned (.tuple #[.int .i64 0, .int .i64 0, .int .i64 0, .int .i64 1])∧AP w w'
theorem CF{x y z:Int}(h:(BA x&&BA y&&BA z)=true):(0≤x∧x≤255)∧(0≤y∧y≤255)∧(0≤z∧z≤255):=by
 simp [BA] at h;omega
theorem MK:LJ 32 OA N8 N9:=⟨Tryz.call32,fun x y z=>⟨PO _ _ _,PM _ _ _,PN _ _ _⟩,fun x y z w h=>JM x y z w (CF h).1 (CF h).2.1 (CF h).2.2,fun x y z w h=>JN x y z w h⟩
theorem JL:LJ 33 FU FT FS:=⟨Tryz.call33,fun x y z=>⟨Bc _,Bc _,Bc _⟩,fun x y z w h=>Hk x y z w (CF h).1 (CF h).2.1 (CF h).2.2,fun x y z w h=>Hl x y z w h⟩
theorem Fp{K:FuncId}{f1 f2 f3:Int→Int→Int→Int}(hK:LJ K f1 f2 f3){W w:World}{rs:List Af}{g gb:Nat}{D:Dk}{ns:List Int}{ad:Option Addr}{n c:Nat}(h:CI W w (blk gb [.func (.func K) #[] #[]]::rs) g D ns ad n c)(hn:n=3):
 Calls Tryz.prog 51 #[.pointer (some ⟨g,0,none⟩), .slice ad n c, .pointer (some ⟨gb,0,none⟩)] w (CJ W g (Ct f1 f2 f3 (AG ns 0) (AG ns 1) (AG ns 2),D) (NS ad n c ns::blk gb [.func (.func K) #[] #[]]::rs)):=by
 subst hn
 have hS:=h.s
 unfold DK NS at hS
 have hL:=h.L
 obtain ⟨b,q⟩:=D
 dsimp only at hS
 obtain ⟨x0,rfl⟩:=BS (a:=ad) hS AS (by omega)
 have key:∃(A B C E:Int),(Ct f1 f2 f3 (AG ns 0) (AG ns 1) (AG ns 2)=(Bo [A,B,C],E))∧(-9223372036854775808≤A∧A≤9223372036854775807)∧(-9223372036854775808≤B∧B≤9223372036854775807)∧(-9223372036854775808≤C∧C≤9223372036854775807)∧
  ∀w,Calls Tryz.prog K #[.int .i64 (AG ns 0), .int .i64 (AG ns 1), .int .i64 (AG ns 2)] w fun e w'=>e= .returned (.tuple #[.int .i64 A, .int .i64 B, .int .i64 C, .int .i64 E])∧AP w w':=by
  cases hx:(BA (AG ns 0)&&BA (AG ns 1)&&BA (AG ns 2)) with
  | true=>
    have hb:=hK.bd (AG ns 0) (AG ns 1) (AG ns 2)
    exact ⟨_,_,_,0,by unfold Ct;rw [if_pos hx],by omega,by omega,by omega,fun w=>hK.good _ _ _ w hx⟩
  | false=>exact ⟨0,0,0,1,by unfold Ct;rw [hx];rfl,by omega,by omega,by omega,fun w=>hK.bad _ _ _ w hx⟩
 obtain ⟨A,B,C,E,k1,k2,k3,k4,k5⟩:=key
 have HC:=AD k5
 have HK:=AD hK.call
 have HI:=AD (Cq k2 (Cq k3 (Cq k4 FB)))
 rw [k1]
 clear h k1 k2 k3 k4 k5 hK
 go_enter Tryz.func51,Tryz.ntmps51
 repeat' (first
  | refine X7 ?_|refine AF ?_;go_step|fail)
 refine AT [10] (fun w=>St W w [blk gb [.func (.func K) #[] #[]],own 3 1 (some ⟨x0,0,none⟩) 3 c (ns.map (Value.int .i64))]) AA ?_
 replace hS:=hS.drew
 focus
  apply N7 0 Cy AA AA AA Ei [10,11,12,13,14,15,16,17,18,19] AA (hS.sub Ae)
  case hfr=>intro w hS;((refine Aq ?_;apply Bp hS 59 _ rfl _ _ rfl (Ac rfl) _;(case hp=>exact AS);(case hc=>rfl);refine AB ?_;go_step));refine wpList_nil ?_;exact ⟨rfl,rfl⟩
  case hd=>rfl
  refine Ab 1 ?_
  refine DH 2 CY (V.indexSl Tryz.underlying46 BX rfl rfl (show Ar 0 0 from rfl) (by omega) (show 0*1=0 from rfl) Br) ?_;go_step
  refine Y6 3 [10,11,12,13,14,15,16,17,18,19] ?_
  refine Ab 4 ?_
  refine DH 5 CY (V.indexSl Tryz.underlying46 BX rfl rfl (show Ar 1 1 from rfl) (by omega) (show 1*1=1 from rfl) Br) ?_;go_step
  refine Y6 6 [10,11,12,13,14,15,16,17,18,19] ?_
  refine Ab 7 ?_
  refine DH 8 CY (V.indexSl Tryz.underlying46 BX rfl rfl (show Ar 2 2 from rfl) (by omega) (show 2*1=2 from rfl) Br) ?_;go_step
  refine Y6 9 [10,11,12,13,14,15,16,17,18,19] ?_
  refine CC 10 ?_
  refine BT (f:=K) rfl rfl HK.out (HC.out _) ?_;rintro e w ⟨rfl,hE⟩;replace hS:=hS.ext hE;clear hE;refine ⟨_,rfl,?_⟩
  refine ⟨fun h=>absurd (by decide) h,?_⟩
  refine AJ ?_
  go_step
  refine Ab 11 ?_
  refine Y1 12 ?_
  refine Y1 13 ?_
  refine Y1 14 ?_
  refine Y1 15 ?_
  refine Ab 16 ?_
  refine Ab 17 ?_
  refine Ab 18 ?_
  refine Ab 19 ?_
  refine AL AA ?_ _
 all_goals
  repeat' (first|(refine AF ?_;go_step)|fail)
  repeat' (first
   | (refine Av 39 ?_);refine Aw AA Tryz.call39 (DT _ (some ⟨g30,0,none⟩) 3 3 [A,B,C] (hS.slBlk (cs:=[Value.int .i64 A,Value.int .i64 B,Value.int .i64 C]) (n:=3) (s:=1) AS rfl (by decide)) HI.out (by decide) (hL.ext hS.1)) (Dj hS ?_);clear hS;intro w hS;go_step|refine X0 ?_|(refine AM 30 ?_);(refine Aq ?_;apply Aj (o:=⟨some 30,_,_,_,_,_⟩) hS 46 3 _ rfl 3 1 8 Ld _ _;(case hvs=>(repeat (first|exact AX.nil|(apply AX.agg;(rfl);(rfl))|(apply AX.one;exact Dz;(rfl);(rfl)))));(case hn=>rfl);(case hn0=>decide);(case hns=>decide);clear hS;intro g30 w hS;refine AB ?_;go_step)|refine AF ?_;go_step|fail)
  refine AI (xs:=[_,_]) rfl (.cons (AC.tmp rfl) (.cons (AC.tmp rfl) (.nil))) (by simp) rfl ?_
  exact At (hS.sub Ae)
theorem KD{c C S:List Int}{n:Nat}(hC:BH C S=0)(hcl:c.length=n)(hb:bE c=0):0≤An c n (lw (Bt C S))∧An c n (lw (Bt C S))≤9223372036854775807:=by
 unfold bE at hb
 split at hb
 ·cases hb
 split at hb
 ·rename_i h1 h2
  have h3:=H5 (l:=lw (Bt C S)) (n:=n) (c:=c) (fun i hi=>(BZ c 0 9999).1 h2 i (by omega)) (fun s=>by
   by_cases h:s∈S
   ·exact ((D0 hC s).1 h).2
   rw [(D0 hC s).2 h];omega)
  refine ⟨h3.1,Int.le_trans h3.2 ?_⟩
  have:(n:Int)≤256:=by omega
  omega
 cases hb
theorem KH(bst:List Int→Int)(hbst:∀c C S,Mk c c.length C S→An c c.length (lw (Bt C S))=bst c){W w:World}{rs:List Af}{g:Nat}{D:Dk}{ns:List Int}{ad:Option Addr}{n c:Nat}(h:CI W w rs g D ns ad n c):Calls Tryz.prog 34 #[.pointer (some ⟨g,0,none⟩), .slice ad n c] w (CJ W g (Dl bst ns,D) (NS ad n c ns::rs)):=by
 have hS:=h.s
 unfold DK NS at hS
 have hL:=h.L
 have hln:ns.length=n:=by have:=(hS.sl (a:=ad) (s:=1) AS).1;simpa using this
 have hn:=h.ln
 obtain ⟨b,q⟩:=D
 dsimp only at hS
 have HM:=AD fun (w:World)(hv:Sl w 1 (.slice ad n c) n (ns.map (Value.int .i64)))=>KU w ns ad n c hv (by omega)
 obtain ⟨E,hE⟩:∃E,bE ns=E:=⟨_,rfl⟩
 have HE:=AD hE
 have HLN:=AD hln
 rw [hE] at HM
 clear h
 by_cases hz:E=0
 case neg=>
  have hFe:Dl bst ns=(nl,E):=by unfold Dl;rw [hE,if_pos hz]
  rw [hFe]
  clear hFe hE hln
  go_enter Tryz.func34,Tryz.ntmps34
  repeat' (first
   | (refine Av 53 ?_);refine Aw AA Tryz.call53 (HM.out _ (hS.sl (a:=ad) (s:=1) AS)) ?_;rintro e w ⟨C,S,ao,m,co,hC,hSm,hm,hT,-,rfl,hS2⟩;replace hS:=hS.call1 hS2;clear hS2;refine A9 ?_;go_step|refine X0 ?_|refine X8 ?_|refine J1 ?_|refine Ow 6 ?_;clear hS;intro g6 w hS|refine PT ?_;clear hS;intro w hS|refine AF ?_;go_step|fail)
  all_goals (try exact Ak)
  refine AI (xs:=[_,_]) rfl (.cons (AC.tmp rfl) (.cons (AC.tmp rfl) (.nil))) (by simp) rfl ?_
  exact At (hS.sub Ae)
 subst hz
 have hFe:Dl bst ns=(Bo [bst ns],0):=by unfold Dl;rw [hE,if_neg (by omega)]
 rw [hFe]
 obtain ⟨B,hB⟩:∃B,bst ns=B:=⟨_,rfl⟩
 rw [hB]
 have HB:=AD hB
 clear hFe hE hln hB
 go_enter Tryz.func34,Tryz.ntmps34
 repeat' (first
  | (refine Av 53 ?_);refine Aw AA Tryz.call53 (HM.out _ (hS.sl (a:=ad) (s:=1) AS)) ?_;rintro e w ⟨C,S,ao,m,co,hC,hSm,hm,hT,hMk,rfl,hS2⟩;replace hS:=hS.call1 hS2;clear hS2;refine A9 ?_;go_step|refine X0 ?_|refine X8 ?_|refine J1 ?_|refine Ow 6 ?_;clear hS;intro g6 w hS|refine PT ?_;clear hS;intro w hS|refine AF ?_;go_step|fail)
 all_goals (try exact Ak)
 have hmk:=hMk rfl
 have hcb:=KE (fun _=>hmk) hT HLN.out
 have hcn:=hcb.2 HE.out
 have hcm:=KD hT HLN.out HE.out
 have hbe:An ns n (lw (Bt C S))=B:=by
  rw [←HB.out,←HLN.out]
  exact hbst ns C S (by rw [HLN.out];exact hmk)
 rw [hbe] at hcn hcm
 have HCA:=AD fun (w:World)(hv:Sl w 1 (.slice ad n c) n (ns.map (Value.int .i64)))(hs:Sl w 1 (.slice ao m co) m (S.map (Value.int .i64)))=>(by have:=LZ w C S ao m co hC hs (by omega) ns ad n c hv (by omega);rw [hcn,hcb.1,HE.out] at this;exact this:Calls Tryz.prog 54 #[tv C (.slice ao m co), .slice ad n c] w fun e w'=>e= .returned (.tuple #[.int .i64 B, .int .i64 0])∧AP w w')
 have HI:=AD (Cq (show -9223372036854775808≤B∧B≤9223372036854775807 by omega) FB)
 clear hmk hcb hcn hcm hbe hMk hT
 repeat' (first
  | (refine Av 54 ?_);refine Aw AA Tryz.call54 (HCA.out _ (hS.sl (a:=ad) (s:=1) AS) (hS.sl (a:=ao) (s:=1) AS)) (Dj hS ?_);clear hS;intro w hS;go_step|(refine Av 39 ?_);refine Aw AA Tryz.call39 (DT _ (some ⟨g24,0,none⟩) 1 1 [B] (hS.slBlk (cs:=[Value.int .i64 B]) (n:=1) (s:=1) AS rfl (by decide)) HI.out (by decide) (hL.ext hS.1)) (Dj hS ?_);clear hS;intro w hS;go_step|refine X0 ?_|refine X8 ?_|refine Mj ?_|refine PS 24 ?_;clear hS;intro g24 w hS|refine AF ?_;go_step|fail)
 refine AI (xs:=[_,_]) rfl (.cons (AC.tmp rfl) (.cons (AC.tmp rfl) (.nil))) (by simp) rfl ?_
 exact At (hS.sub Ae)
theorem V.makeFn{P:Program}{ty:TypeId}{a:Act}{fn:Fn}{cs:List Operand}{vs:List Value}(h:cs.map a.eval=vs):Bk P (.makeFunc fn #[] cs.toArray) ty a (.func fn #[] vs.toArray):=fun d pos af g w=>by
 subst h
 simp only [execOp,List.map_toArray]
 rfl
section
variable{K:Type}[DecidableEq K]{P:Program}{enc:K→Value}{W w:World}{rs rs':List Af}{Q:Exit→Act→World→Prop}{K':Act→World→Prop}{o:Oper}{a:Act}
theorem K2(hS:St W w rs)(mt:TypeId)(x i y:Operand)(ho:o.op= .insert mt x i y)(b:Nat)(hx:a.eval x= .map (some b))(k:K)(hk:a.eval i=enc k){kt et:TypeId}(hm:P.underlying mt=some (.map kt et))(law:Cg P kt enc)
 (f:K→Option Value) (hp:AK (mp enc b f) rs rs') (v:Value) (hv:a.eval y=v) (hd:o.dst=none) (h:∀w',St W w' (mp enc b (fun j=>if j=k then some v else f j)::rs')→K' a w'):o.wp P a w K' Q:=by
 obtain ⟨w',hrun,h1,h2,h3⟩:=(hS.mp hp).update hm law k (a.eval y)
 rw [hv] at h1
 have hE0:AP ({w with heap:=#[]}:World) w:=⟨rfl,rfl,rfl,by simp,fun i hi=>by simp at hi⟩
 have hE1:=h2 _ (by simp) hE0
 have hlt':=h1.lt
 have hsz:w.heap.size≤w'.heap.size:=by
  by_cases hc:w.heap.size≤b+1
  ·omega
  have e1:=h3 (w.heap.size-1) (by omega)
  have e2:w.heap[w.heap.size-1]? =some (w.heap[w.heap.size-1]'(by omega)):=Array.getElem?_eq_getElem (by omega)
  rw [e2] at e1
  have:=(Array.getElem?_eq_some_iff.1 e1).1
  omega
 have hO:Cm [b] w w':=⟨hE1.os,hE1.tape,hE1.output,hsz,fun i _ hi=>h3 i (by simpa using hi)⟩
 have hh:=h w' (by
  refine St.change (rs1:=[mp enc b (fun j=>if j=k then some v else f j)]) (hS.pull hp) fun f1 hf1 _ _=>?_
  obtain ⟨rfl,_⟩:=hf1
  exact ⟨[b],⟨[b],[],rfl,⟨rfl,h1⟩,rfl⟩,by simp,fun c hc=> .inl hc,hO⟩)
 unfold Oper.wp execOp
 simp only [ho,hx,hk,Sem.run_bind,hrun,Result.andThen_ok,Sem.run_pure]
 show K' (a.put o.dst undef) _
 rw [hd]
 exact hh
end
def kc:F6→FuncId
 | .kSet=>17| .kCoarse=>18| .kShow=>19| .kTokens=>20| .kWave=>41| .kBack=>41| .kDown=>41| .kUp=>41| .kSize=>30| .kTint=>51| .kPlain=>51| .kBest=>34
structure Bx where
 w:Nat
 b:Nat
 d:Nat
 u:Nat
 t:Nat
 p:Nat
def Ci(x:Bx):F6→Array Value
 | .kWave=>#[.pointer (some ⟨x.w,0,none⟩)]| .kBack=>#[.pointer (some ⟨x.b,0,none⟩)]| .kDown=>#[.pointer (some ⟨x.d,0,none⟩)]| .kUp=>#[.pointer (some ⟨x.u,0,none⟩)]| .kTint=>#[.pointer (some ⟨x.t,0,none⟩)]| .kPlain=>#[.pointer (some ⟨x.p,0,none⟩)]|_=>#[]
def Qe(x:Bx)(c:F6):Value:= .func (.func (kc c)) #[] (Ci x c)
def Co(x:Bx)(c:F6):Value:= .agg #[.int .i64 c.many,Qe x c]
def LB(x:Bx):List Af:=[blk x.w [.func (.func 22) #[] #[]],blk x.b [.func (.func 24) #[] #[]],blk x.d [.func (.func 26) #[] #[]],blk x.u [.func (.func 28) #[] #[]],blk x.t [.func (.func 32) #[] #[]],blk x.p [.func (.func 33) #[] #[]]]
theorem DV(w:World)(v:Value)(hv:∃K,v= .func (.func K) #[] #[]):Calls Tryz.prog 21 #[v] w fun e w'=>∃g,e= .returned (.func (.func 41) #[] #[.pointer (some ⟨g,0,none⟩)])∧St w w' [blk g [v]]:=by
 obtain ⟨K,rfl⟩:=hv
 have hS:=St.start w
 go_enter Tryz.func21,Tryz.ntmps21
 repeat' (first
  | (refine AM 3 ?_);refine AR (.func (.func 41) #[] #[.pointer (some ⟨g1,0,none⟩)]) (V.makeFn (vs:=[.pointer (some ⟨g1,0,none⟩)]) rfl) AA ?_;go_step|refine X7 ?_|(refine AM 1 ?_);(refine Aq ?_;apply Jx (o:=⟨some 1,_,_,_,_,_⟩) hS 56 _ rfl _;(case hx=>exact Dz);(case h1=>rfl);clear hS;intro g1 w hS;refine AB ?_;go_step)|refine AF ?_;go_step|fail)
 go_ret
 exact ⟨g1,rfl,hS.sub Ae⟩
theorem Ez(w:World)(v:Value)(hv:∃K,v= .func (.func K) #[] #[]):Calls Tryz.prog 31 #[v] w fun e w'=>∃g,e= .returned (.func (.func 51) #[] #[.pointer (some ⟨g,0,none⟩)])∧St w w' [blk g [v]]:=by
 obtain ⟨K,rfl⟩:=hv
 have hS:=St.start w
 go_enter Tryz.func31,Tryz.ntmps31
 repeat' (first
  | (refine AM 3 ?_);refine AR (.func (.func 51) #[] #[.pointer (some ⟨g1,0,none⟩)]) (V.makeFn (vs:=[.pointer (some ⟨g1,0,none⟩)]) rfl) AA ?_;go_step|refine X7 ?_|(refine AM 1 ?_);(refine Aq ?_;apply Jx (o:=⟨some 1,_,_,_,_,_⟩) hS 59 _ rfl _;(case hx=>exact Dz);(case h1=>rfl);clear hS;intro g1 w hS;refine AB ?_;go_step)|refine AF ?_;go_step|fail)
 go_ret
 exact ⟨g1,rfl,hS.sub Ae⟩
theorem OJ(m:Int)(f:Fn)(x y:Array Value)(w:World):(Instr.build 42 #[(0, .int .i64 m),(1, .func f x y)]).run Tryz.prog w= .ok (.agg #[.int .i64 m, .func f x y]) w:=by
 first|rfl|kernel_rfl
theorem NO(c:F6):∀(args:Array Value)(w:World),(callFunc (kc c) args).run Tryz.prog w= .ok (.enter (kc c) args) w:=by
 cases c
 case kSet=>exact Tryz.call17
 case kCoarse=>exact Tryz.call18
 case kShow=>exact Tryz.call19
 case kTokens=>exact Tryz.call20
 case kSize=>exact Tryz.call30
 case kTint=>exact Tryz.call51
 case kPlain=>exact Tryz.call51
 case kBest=>exact Tryz.call34
 all_goals exact Tryz.call41
def BF(x:Bx)(s:ByteArray):Option Value:=(FL s).map (Co x)
theorem BE{α β:Type}(f:α→β)(p:Prop)[Decidable p](a:α)(b:Option α):(if p then some a else b).map f=if p then some (f a) else b.map f:=by split<;>rfl
theorem J6(x:Bx):BF x=fun j=>if j=⟨#[98,101,115,116]⟩ then some (Co x .kBest) else if j=⟨#[112,108,97,105,110]⟩ then some (Co x .kPlain) else if j=⟨#[116,105,110,116]⟩ then some (Co x .kTint) else if j=⟨#[115,105,122,101]⟩ then some (Co x .kSize) else if j=⟨#[117,112]⟩ then some (Co x .kUp) else if j=⟨#[100,111,119,110]⟩ then some (Co x .kDown) else if j=⟨#[98,97,99,107]⟩ then some (Co x .kBack) else if j=⟨#[119,97,118,101]⟩ then some (Co x .kWave) else if j=⟨#[116,111,107,101,110,115]⟩ then some (Co x .kTokens) else if j=⟨#[115,104,111,119]⟩ then some (Co x .kShow) else if j=⟨#[99,111,97,114,115,101]⟩ then some (Co x .kCoarse) else if j=⟨#[115,101,116]⟩ then some (Co x .kSet) else none:=by
 funext j
 unfold BF FL
 rw [BE,BE,BE,BE,BE,BE,BE,BE,BE,BE,BE,BE]
 rfl
theorem CD(w0:World):Calls Tryz.prog 14 #[] w0 fun e w=>∃g x,e= .returned (.map (some g))∧St w0 w (mp sk g (BF x)::LB x):=by
 have hS:=St.start w0
 go_enter Tryz.func14,Tryz.ntmps14
 repeat' (first
  | (refine AM 6 ?_);refine Ay (f:=21) Tryz.call21 AA ?_;refine ⟨_,(DV _ (.func (.func 22) #[] #[]) ⟨_,rfl⟩),?_⟩;rintro e w ⟨gw,rfl,hS2⟩;replace hS:=hS.call1 hS2;clear hS2;refine A9 ?_;go_step|(refine AM 8 ?_);refine Ay (f:=21) Tryz.call21 AA ?_;refine ⟨_,(DV _ (.func (.func 24) #[] #[]) ⟨_,rfl⟩),?_⟩;rintro e w ⟨gb,rfl,hS2⟩;replace hS:=hS.call1 hS2;clear hS2;refine A9 ?_;go_step|(refine AM 10 ?_);refine Ay (f:=21) Tryz.call21 AA ?_;refine ⟨_,(DV _ (.func (.func 26) #[] #[]) ⟨_,rfl⟩),?_⟩;rintro e w ⟨gd,rfl,hS2⟩;replace hS:=hS.call1 hS2;clear hS2;refine A9 ?_;go_step|(refine AM 12 ?_);refine Ay (f:=21) Tryz.call21 AA ?_;refine ⟨_,(DV _ (.func (.func 28) #[] #[]) ⟨_,rfl⟩),?_⟩;rintro e w ⟨gu,rfl,hS2⟩;replace hS:=hS.call1 hS2;clear hS2;refine A9 ?_;go_step|(refine AM 15 ?_);refine Ay (f:=31) Tryz.call31 AA ?_;refine ⟨_,(Ez _ (.func (.func 32) #[] #[]) ⟨_,rfl⟩),?_⟩;rintro e w ⟨gt,rfl,hS2⟩;replace hS:=hS.call1 hS2;clear hS2;refine A9 ?_;go_step|(refine AM 17 ?_);refine Ay (f:=31) Tryz.call31 AA ?_;refine ⟨_,(Ez _ (.func (.func 33) #[] #[]) ⟨_,rfl⟩),?_⟩;rintro e w ⟨gp,rfl,hS2⟩;replace hS:=hS.call1 hS2;clear hS2;refine A9 ?_;go_step|(refine AM 1 ?_);refine Aq ?_;refine DA (o:=⟨some 1,_,_,_,_,_⟩) sk hS _ rfl ?_;clear hS;intro g1 w hS;refine AB ?_;go_step|refine K8 2 ?_|refine K8 3 ?_|refine K8 4 ?_|refine K8 5 ?_|refine K8 7 ?_|refine K8 9 ?_|refine K8 11 ?_|refine K8 13 ?_|refine K8 14 ?_|refine K8 16 ?_|refine K8 18 ?_|refine K8 19 ?_|(with_reducible refine Al none _ ?_);refine Aq ?_;apply K2 (enc:=sk) hS _ _ _ _ rfl _ rfl _ rfl Tryz.underlying44 (Ah Tryz.underlying9) _;(case hp=>exact AS);(case hv=>rfl);(case hd=>rfl);clear hS;intro w hS|refine X0 ?_|refine AF ?_;go_step|fail)
 go_ret
 refine ⟨g1,⟨gw,gb,gd,gu,gt,gp⟩,rfl,?_⟩
 rw [J6]
 obtain ⟨ff,hS2⟩:∃ff,St w0 w [mp sk g1 ff,blk gw [.func (.func 22) #[] #[]],blk gb [.func (.func 24) #[] #[]],blk gd [.func (.func 26) #[] #[]],blk gu [.func (.func 28) #[] #[]],blk gt [.func (.func 32) #[] #[]],blk gp [.func (.func 33) #[] #[]]]∧ff=_:=⟨_,hS.sub Ae,rfl⟩
 exact hS2.2▸ hS2.1
theorem NC(bst:List Int→Int)(hbst:∀c C S,Mk c c.length C S→An c c.length (lw (Bt C S))=bst c)(c:F6)(x:Bx){W w:World}{rs:List Af}{g:Nat}{D:Dk}{ns:List Int}{ad:Option Addr}{n cc:Nat}(h:CI W w (LB x++rs) g D ns ad n cc)(hm:DQ c.many n=true):
 Calls Tryz.prog (kc c) (#[.pointer (some ⟨g,0,none⟩), .slice ad n cc]++Ci x c) w (CJ W g (DO bst c D ns) (NS ad n cc ns::(LB x++rs))):=by
 have hm2:(n:Int)=c.many∨(c.many<0∧1≤n):=by
  unfold DQ at hm
  simpa using hm
 clear hm
 unfold LB at h⊢
 simp only [List.cons_append,List.nil_append] at h⊢
 cases c
 case kSet=>exact Lc h (by simp [F6.many] at hm2;omega)
 case kCoarse=>exact H7 h (by simp [F6.many] at hm2;omega)
 case kShow=>exact KJ h
 case kTokens=>exact H9 h
 case kWave=>
  have h9:CI W w (blk x.w [.func (.func 22) #[] #[]]::blk x.b [.func (.func 24) #[] #[]]::blk x.d [.func (.func 26) #[] #[]]::blk x.u [.func (.func 28) #[] #[]]::blk x.t [.func (.func 32) #[] #[]]::blk x.p [.func (.func 33) #[] #[]]::rs) g D ns ad n cc:=⟨h.s.sub Ae,h.ok,h.ln,h.r,h.L⟩
  exact (Gu O2 h9).mono fun e w' ⟨h1,h2⟩=>⟨h1,(show St W w' (DK g (DO bst .kWave D ns).2::NS ad n cc ns::blk x.w [.func (.func 22) #[] #[]]::blk x.b [.func (.func 24) #[] #[]]::blk x.d [.func (.func 26) #[] #[]]::blk x.u [.func (.func 28) #[] #[]]::blk x.t [.func (.func 32) #[] #[]]::blk x.p [.func (.func 33) #[] #[]]::rs) from h2).sub Ae⟩
 case kBack=>
  have h9:CI W w (blk x.b [.func (.func 24) #[] #[]]::blk x.w [.func (.func 22) #[] #[]]::blk x.d [.func (.func 26) #[] #[]]::blk x.u [.func (.func 28) #[] #[]]::blk x.t [.func (.func 32) #[] #[]]::blk x.p [.func (.func 33) #[] #[]]::rs) g D ns ad n cc:=⟨h.s.sub Ae,h.ok,h.ln,h.r,h.L⟩
  exact (Gu O3 h9).mono fun e w' ⟨h1,h2⟩=>⟨h1,(show St W w' (DK g (DO bst .kBack D ns).2::NS ad n cc ns::blk x.b [.func (.func 24) #[] #[]]::blk x.w [.func (.func 22) #[] #[]]::blk x.d [.func (.func 26) #[] #[]]::blk x.u [.func (.func 28) #[] #[]]::blk x.t [.func (.func 32) #[] #[]]::blk x.p [.func (.func 33) #[] #[]]::rs) from h2).sub Ae⟩
 case kDown=>
  have h9:CI W w (blk x.d [.func (.func 26) #[] #[]]::blk x.w [.func (.func 22) #[] #[]]::blk x.b [.func (.func 24) #[] #[]]::blk x.u [.func (.func 28) #[] #[]]::blk x.t [.func (.func 32) #[] #[]]::blk x.p [.func (.func 33) #[] #[]]::rs) g D ns ad n cc:=⟨h.s.sub Ae,h.ok,h.ln,h.r,h.L⟩
  exact (Gu O4 h9).mono fun e w' ⟨h1,h2⟩=>⟨h1,(show St W w' (DK g (DO bst .kDown D ns).2::NS ad n cc ns::blk x.d [.func (.func 26) #[] #[]]::blk x.w [.func (.func 22) #[] #[]]::blk x.b [.func (.func 24) #[] #[]]::blk x.u [.func (.func 28) #[] #[]]::blk x.t [.func (.func 32) #[] #[]]::blk x.p [.func (.func 33) #[] #[]]::rs) from h2).sub Ae⟩
 case kUp=>
  have h9:CI W w (blk x.u [.func (.func 28) #[] #[]]::blk x.w [.func (.func 22) #[] #[]]::blk x.b [.func (.func 24) #[] #[]]::blk x.d [.func (.func 26) #[] #[]]::blk x.t [.func (.func 32) #[] #[]]::blk x.p [.func (.func 33) #[] #[]]::rs) g D ns ad n cc:=⟨h.s.sub Ae,h.ok,h.ln,h.r,h.L⟩
  exact (Gu O5 h9).mono fun e w' ⟨h1,h2⟩=>⟨h1,(show St W w' (DK g (DO bst .kUp D ns).2::NS ad n cc ns::blk x.u [.func (.func 28) #[] #[]]::blk x.w [.func (.func 22) #[] #[]]::blk x.b [.func (.func 24) #[] #[]]::blk x.d [.func (.func 26) #[] #[]]::blk x.t [.func (.func 32) #[] #[]]::blk x.p [.func (.func 33) #[] #[]]::rs) from h2).sub Ae⟩
 case kSize=>exact Iy h (by simp [F6.many] at hm2;omega)
 case kTint=>
  have h9:CI W w (blk x.t [.func (.func 32) #[] #[]]::blk x.w [.func (.func 22) #[] #[]]::blk x.b [.func (.func 24) #[] #[]]::blk x.d [.func (.func 26) #[] #[]]::blk x.u [.func (.func 28) #[] #[]]::blk x.p [.func (.func 33) #[] #[]]::rs) g D ns ad n cc:=⟨h.s.sub Ae,h.ok,h.ln,h.r,h.L⟩
  exact (Fp MK h9 (by simp [F6.many] at hm2;omega)).mono fun e w' ⟨h1,h2⟩=>⟨h1,(show St W w' (DK g (DO bst .kTint D ns).2::NS ad n cc ns::blk x.t [.func (.func 32) #[] #[]]::blk x.w [.func (.func 22) #[] #[]]::blk x.b [.func (.func 24) #[] #[]]::blk x.d [.func (.func 26) #[] #[]]::blk x.u [.func (.func 28) #[] #[]]::blk x.p [.func (.func 33) #[] #[]]::rs) from h2).sub Ae⟩
 case kPlain=>
  have h9:CI W w (blk x.p [.func (.func 33) #[] #[]]::blk x.w [.func (.func 22) #[] #[]]::blk x.b [.func (.func 24) #[] #[]]::blk x.d [.func (.func 26) #[] #[]]::blk x.u [.func (.func 28) #[] #[]]::blk x.t [.func (.func 32) #[] #[]]::rs) g D ns ad n cc:=⟨h.s.sub Ae,h.ok,h.ln,h.r,h.L⟩
  exact (Fp JL h9 (by simp [F6.many] at hm2;omega)).mono fun e w' ⟨h1,h2⟩=>⟨h1,(show St W w' (DK g (DO bst .kPlain D ns).2::NS ad n cc ns::blk x.p [.func (.func 33) #[] #[]]::blk x.w [.func (.func 22) #[] #[]]::blk x.b [.func (.func 24) #[] #[]]::blk x.d [.func (.func 26) #[] #[]]::blk x.u [.func (.func 28) #[] #[]]::blk x.t [.func (.func 32) #[] #[]]::rs) from h2).sub Ae⟩
 case kBest=>exact KH bst hbst h
theorem E3(s:ByteArray):∀x∈Ax s,x.size≤s.size:=by
 intro x hx
 unfold Ax Lib.goFieldsP at hx
 obtain ⟨y,_,rfl⟩:=List.mem_map.1 hx
 rw [ByteArray.size_extract]
 omega
theorem Fa:∀{ws:List ByteArray} {i:Nat} {s:ByteArray},ws[i]? =some s→EN s=none→CQ ws=none
 | [],i,s,h,_=>by simp at h
 | x::r,0,s,h,hn=>by
   simp at h;subst h
   unfold CQ;rw [hn]
 | x::r,i+1,s,h,hn=>by
   unfold CQ
   rw [Fa (ws:=r) (i:=i) (by simpa using h) hn]
   cases EN x<;>rfl
theorem Fb:∀{a:List ByteArray} {L:List Int} {s:ByteArray} {n:Int},CQ a=some L→EN s=some n→CQ (a++[s])=some (L++[n])
 | [],L,s,n,h,hn=>by
   cases h
   show CQ [s]=_
   unfold CQ;rw [hn];rfl
 | x::r,L,s,n,h,hn=>by
   unfold CQ at h
   rw [List.cons_append]
   unfold CQ
   cases hx:EN x with
   | none=>rw [hx] at h;cases h
   | some m=>
     rw [hx] at h
     dsimp only at h⊢
     cases hr:CQ r with
     | none=>rw [hr] at h;cases h
     | some R=>
       rw [hr] at h
       cases h
       rw [Fb hr hn]
       rfl
def EC(W:World)(g:Nat)(r:(ByteArray×Int)×Dk)(rs:List Af)(e:Ending)(w:World):Prop:=e= .returned (.tuple #[.string r.1.1, .int .i64 r.1.2])∧St W w (DK g r.2::rs)
theorem Ec(w:World):(zeroValue 42).run Tryz.prog w= .ok (.agg #[.int .i64 0, .nilFunc]) w:=by first|rfl|kernel_rfl
theorem KT{W w:World}{rs:List Af}{g:Nat}{D:Dk}(hS:St W w (DK g D::rs))(s:ByteArray)(hs:s.size≤300)(hw:Ax s=[]):Calls Tryz.prog 10 #[.pointer (some ⟨g,0,none⟩), .string s] w (EC W g ((nl,4),D) rs):=by
 have HF:=AD fun (w:World)=>C2 w s hs
 rw [hw] at HF
 go_enter Tryz.func10,Tryz.ntmps10
 repeat' (first
  | (refine Av 12 ?_);refine Aw AA Tryz.call12 (HF.out _) ?_;rintro e w ⟨A,n,hn,rfl,hS2⟩;subst hn;replace hS:=hS.call1 hS2;clear hS2;refine A9 ?_;go_step|refine X0 ?_|refine M0 ?_|refine Mz ?_|refine AF ?_;go_step|fail)
 all_goals (try exact Ak)
 refine AI (xs:=[_,_]) rfl (.cons (AC.tmp rfl) (.cons (AC.tmp rfl) (.nil))) (by simp) rfl ?_
 exact ⟨rfl,hS.sub Ae⟩
theorem NQ{W w:World}{rs:List Af}{g:Nat}{D:Dk}(hS:St W w (DK g D::rs))(s:ByteArray)(hs:s.size≤300)(w0:ByteArray)(ws:List ByteArray)(hw:Ax s=w0::ws)(hc:FL w0=none):Calls Tryz.prog 10 #[.pointer (some ⟨g,0,none⟩), .string s] w (EC W g ((nl,4),D) rs):=by
 have HF:=AD fun (w:World)=>C2 w s hs
 have hl:(Ax s).length=ws.length+1:=by rw [hw];rfl
 have hg0:((Ax s).map Value.string)[0]? =some (.string w0):=by rw [hw];rfl
 obtain ⟨WV,hWV⟩:∃V,(Ax s).map Value.string=V:=⟨_,rfl⟩
 obtain ⟨k,hk⟩:∃k,ws.length=k:=⟨_,rfl⟩
 rw [hWV] at hg0 HF
 rw [hl,hk] at HF
 have HNN:=AD fun x=>(show BF x w0=none by unfold BF;rw [hc];rfl)
 clear hw hc hl hWV
 go_enter Tryz.func10,Tryz.ntmps10
 repeat' (first
  | (refine Av 12 ?_);refine Aw AA Tryz.call12 (HF.out _) ?_;rintro e w ⟨A,n,hn,rfl,hS2⟩;subst hn;replace hS:=hS.call1 hS2;clear hS2;refine A9 ?_;go_step|refine X0 ?_|refine M0 ?_|refine Mz ?_|refine AF ?_;go_step|fail)
 all_goals (try exact Ak)
 refine AT [4,9] (fun w=>St W w [own 9 1 (some ⟨A,0,none⟩) (k+1) (k+1) WV]) AA ?_
 replace hS:=hS.drew
 focus
  refine Ab 1 ?_
  refine QC 2 ?_
  refine Y9 3 [4,5,6,7,9,10] ?_
  refine Dx [0,8] AA (by simp) (.cons Cy AA ?_ (.cons Cy AA ?_ (.nil)))
  rotate_left 1
  focus
   refine Y3 ?_;clear hS;intro g7 w hS
   refine CC 0 ?_
   refine BN (f:=14) rfl Tryz.call14 (CD _) ?_;rintro e w ⟨gm,x,rfl,hS2⟩;replace hS:=hS.call hS2;clear hS2;unfold LB at hS;simp only [List.cons_append,List.nil_append] at hS;refine ⟨_,rfl,?_⟩
   refine ⟨fun _ _=>hS.sub Ae,?_⟩
   refine AJ ?_
   go_step
   refine CC 4 ?_
   refine DU (enc:=sk) hS _ _ _ rfl gm rfl w0 rfl Tryz.underlying44 (Ah Tryz.underlying9) (.agg #[.int .i64 0, .nilFunc]) Ec (BF x) AS (HNN.out x) ?_
   refine ⟨fun h=>absurd (by decide) h,?_⟩
   refine AJ ?_
   go_step
   refine Ab 5 ?_
   refine Y1 6 ?_
   refine Y1 7 ?_
   refine CC 9 ?_
   refine Y4 ?_;clear hS;intro w hS
   refine Ab 10 ?_
   refine AL AA ?_ _
  rotate_right 1
  focus
   refine BN (f:=14) rfl Tryz.call14 (CD _) ?_;rintro e w ⟨gm,x,rfl,hS2⟩;replace hS:=hS.call hS2;clear hS2;unfold LB at hS;simp only [List.cons_append,List.nil_append] at hS;refine ⟨_,rfl,?_⟩
   refine ⟨fun _ _=>hS.sub Ae,?_⟩
   refine AJ ?_
   go_step
   refine Dx [4,8] AA (by simp) (.cons Cy AA ?_ (.cons Cy AA ?_ (.nil)))
   rotate_left 1
   focus
    refine Y3 ?_;clear hS;intro g7 w hS
    refine CC 4 ?_
    refine DU (enc:=sk) hS _ _ _ rfl gm rfl w0 rfl Tryz.underlying44 (Ah Tryz.underlying9) (.agg #[.int .i64 0, .nilFunc]) Ec (BF x) AS (HNN.out x) ?_
    refine ⟨fun h=>absurd (by decide) h,?_⟩
    refine AJ ?_
    go_step
    refine Ab 5 ?_
    refine Y1 6 ?_
    refine Y1 7 ?_
    refine CC 9 ?_
    refine Y4 ?_;clear hS;intro w hS
    refine Ab 10 ?_
    refine AL AA ?_ _
   rotate_right 1
   focus
    refine DU (enc:=sk) hS _ _ _ rfl gm rfl w0 rfl Tryz.underlying44 (Ah Tryz.underlying9) (.agg #[.int .i64 0, .nilFunc]) Ec (BF x) AS (HNN.out x) ?_
    refine ⟨fun h=>absurd (by decide) h,?_⟩
    refine AJ ?_
    go_step
    refine Ab 5 ?_
    refine Y1 6 ?_
    refine Y1 7 ?_
    refine CC 8 ?_
    refine Y3 ?_;clear hS;intro g7 w hS
    refine CC 9 ?_
    refine Y4 ?_;clear hS;intro w hS
    refine Ab 10 ?_
    refine AL AA ?_ _
 all_goals
  repeat' (first|(refine AF ?_;go_step)|fail)
  repeat' (first
   | go_skip|((first|(with_reducible refine F2 ?_)|(with_reducible refine LA ?_));(first|go_big_want|go_step);go_step)|((with_reducible refine Al _ (.pick _ _ _) ?_);(refine Ag rfl AA ?_;go_step))|((refine AM 28 ?_);(refine MT _ (V.not rfl) AA (fun hB=>?_) (fun hB=>?_)<;>(try exact Na hB)<;>go_step))|(refine AF ?_;go_step)|fail)
 all_goals (try exact Ak)
 all_goals
  refine AI (xs:=[_,_]) rfl (.cons (AC.tmp rfl) (.cons (AC.tmp rfl) (.nil))) (by simp) rfl ?_
  exact ⟨rfl,hS.sub Ae⟩
theorem Cr(p:Nat→Bool)(s:ByteArray):∀(f pos:Nat)(st:Option Nat)(acc:List (Nat×Nat)),(Lib.spansFromP p s f pos st acc).1.length≤acc.length+f
 | 0,pos,st,acc=>by simp [Lib.spansFromP]
 | f+1,pos,st,acc=>by
   unfold Lib.spansFromP
   split
   ·split
    ·cases st with
     | none=>have:=Cr p s f (pos+(Utf8.decode s pos).2) none acc;dsimp only;omega
     | some a=>have:=Cr p s f (pos+(Utf8.decode s pos).2) none (acc++[(a,pos)]);rw [List.length_append] at this;simp only [List.length_cons,List.length_nil] at this;dsimp only;omega
    cases st with
    | none=>have:=Cr p s f (pos+(Utf8.decode s pos).2) (some pos) acc;dsimp only;omega
    | some a=>have:=Cr p s f (pos+(Utf8.decode s pos).2) (some a) acc;dsimp only;omega
   dsimp only;omega
theorem GS(s:ByteArray):(Ax s).length≤s.size+1:=by
 unfold Ax Lib.goFieldsP Lib.spansOfP
 rw [List.length_map]
 have h:=Cr (fun c=>decide (c=32)) s s.size 0 none []
 obtain ⟨⟨a,b⟩,hab⟩:∃x,Lib.spansFromP (fun c=>decide (c=32)) s s.size 0 none []=x:=⟨_,rfl⟩
 rw [hab] at h⊢
 unfold Lib.closeSpans
 simp only [List.length_nil,Nat.zero_add] at h
 cases b with
 | none=>dsimp only at h⊢;omega
 | some y=>dsimp only at h⊢;rw [List.length_append];simp only [List.length_cons,List.length_nil];omega
theorem Lw{W w:World}{rs:List Af}{g:Nat}{D:Dk}(hS:St W w (DK g D::rs))(s:ByteArray)(hs:s.size≤300)(w0:ByteArray)(ws:List ByteArray)(hw:Ax s=w0::ws)(c:F6)(hc:FL w0=some c)(hm:DQ c.many ws.length=false):Calls Tryz.prog 10 #[.pointer (some ⟨g,0,none⟩), .string s] w (EC W g ((nl,4),D) rs):=by
 have HF:=AD fun (w:World)=>C2 w s hs
 have hl:(Ax s).length=ws.length+1:=by rw [hw];rfl
 have hg0:((Ax s).map Value.string)[0]? =some (.string w0):=by rw [hw];rfl
 have hgk:∀i (v:ByteArray),ws[i]? =some v→((Ax s).map Value.string)[1+i]? =some (.string v):=fun i v hv=>by rw [hw,Nat.add_comm,List.map_cons,List.getElem?_cons_succ,List.getElem?_map,hv];rfl
 have hsz:∀i (v:ByteArray),ws[i]? =some v→v.size≤300:=fun i v hv=>Nat.le_trans (E3 s v (by rw [hw];exact List.mem_cons_of_mem _ (List.mem_of_getElem? hv))) hs
 have hkm:ws.length≤1000:=by
  have:=GS s
  rw [hl] at this;omega
 have HGK:=AD hgk
 have HSZ:=AD hsz
 obtain ⟨WV,hWV⟩:∃V,(Ax s).map Value.string=V:=⟨_,rfl⟩
 obtain ⟨k,hk⟩:∃k,ws.length=k:=⟨_,rfl⟩
 rw [hWV] at hg0 HF HGK
 rw [hl,hk] at HF
 rw [hk] at hm hkm
 have HK:=AD hk
 obtain ⟨M,hM⟩:∃M,c.many=M:=⟨_,rfl⟩
 obtain ⟨KF,hKF⟩:∃K,kc c=K:=⟨_,rfl⟩
 have HNN:=AD fun x=>(show BF x w0=some (.agg #[.int .i64 M, .func (.func KF) #[] (Ci x c)]) by unfold BF;rw [hc,←hM,←hKF];rfl)
 have hMr: -1≤M∧M≤3:=by rw [←hM];cases c<;>decide
 have HM:=AD hM
 have HKF:=AD hKF
 rw [hM] at hm
 have hm2:¬((k:Int)=M∨(M<0∧1≤k)):=by unfold DQ at hm;simpa using hm
 clear hw hc hl hWV hgk hsz hk hM hKF hm
 go_enter Tryz.func10,Tryz.ntmps10
 repeat' (first
  | (refine Av 12 ?_);refine Aw AA Tryz.call12 (HF.out _) ?_;rintro e w ⟨A,n,hn,rfl,hS2⟩;subst hn;replace hS:=hS.call1 hS2;clear hS2;refine A9 ?_;go_step|refine X0 ?_|refine M0 ?_|refine Mz ?_|refine AF ?_;go_step|fail)
 all_goals (try exact Ak)
 refine AT [4,9] (fun w=>St W w [own 9 1 (some ⟨A,0,none⟩) (k+1) (k+1) WV]) AA ?_
 replace hS:=hS.drew
 focus
  refine Ab 1 ?_
  refine QC 2 ?_
  refine Y9 3 [4,5,6,7,9,10] ?_
  refine Dx [0,8] AA (by simp) (.cons Cy AA ?_ (.cons Cy AA ?_ (.nil)))
  rotate_left 1
  focus
   refine Y3 ?_;clear hS;intro g7 w hS
   refine CC 0 ?_
   refine BN (f:=14) rfl Tryz.call14 (CD _) ?_;rintro e w ⟨gm,x,rfl,hS2⟩;replace hS:=hS.call hS2;clear hS2;unfold LB at hS;simp only [List.cons_append,List.nil_append] at hS;have hNN:=HNN.out x;obtain ⟨CP,hCP⟩:∃C,Ci x c=C:=⟨_,rfl⟩;rw [hCP] at hNN;have HNX:=AD hNN;have HCP:=AD hCP;clear hNN hCP;refine ⟨_,rfl,?_⟩
   refine ⟨fun _ _=>hS.sub Ae,?_⟩
   refine AJ ?_
   go_step
   refine CC 4 ?_
   refine Bg (enc:=sk) hS _ _ _ rfl gm rfl w0 rfl Tryz.underlying44 (Ah Tryz.underlying9) (.agg #[.int .i64 0, .nilFunc]) Ec (BF x) AS _ HNX.out ?_
   refine ⟨fun h=>absurd (by decide) h,?_⟩
   refine AJ ?_
   go_step
   refine Ab 5 ?_
   refine Y1 6 ?_
   refine Y1 7 ?_
   refine CC 9 ?_
   refine Y4 ?_;clear hS;intro w hS
   refine Ab 10 ?_
   refine AL AA ?_ _
  rotate_right 1
  focus
   refine BN (f:=14) rfl Tryz.call14 (CD _) ?_;rintro e w ⟨gm,x,rfl,hS2⟩;replace hS:=hS.call hS2;clear hS2;unfold LB at hS;simp only [List.cons_append,List.nil_append] at hS;have hNN:=HNN.out x;obtain ⟨CP,hCP⟩:∃C,Ci x c=C:=⟨_,rfl⟩;rw [hCP] at hNN;have HNX:=AD hNN;have HCP:=AD hCP;clear hNN hCP;refine ⟨_,rfl,?_⟩
   refine ⟨fun _ _=>hS.sub Ae,?_⟩
   refine AJ ?_
   go_step
   refine Dx [4,8] AA (by simp) (.cons Cy AA ?_ (.cons Cy AA ?_ (.nil)))
   rotate_left 1
   focus
    refine Y3 ?_;clear hS;intro g7 w hS
    refine CC 4 ?_
    refine Bg (enc:=sk) hS _ _ _ rfl gm rfl w0 rfl Tryz.underlying44 (Ah Tryz.underlying9) (.agg #[.int .i64 0, .nilFunc]) Ec (BF x) AS _ HNX.out ?_
    refine ⟨fun h=>absurd (by decide) h,?_⟩
    refine AJ ?_
    go_step
    refine Ab 5 ?_
    refine Y1 6 ?_
    refine Y1 7 ?_
    refine CC 9 ?_
    refine Y4 ?_;clear hS;intro w hS
    refine Ab 10 ?_
    refine AL AA ?_ _
   rotate_right 1
   focus
    refine Bg (enc:=sk) hS _ _ _ rfl gm rfl w0 rfl Tryz.underlying44 (Ah Tryz.underlying9) (.agg #[.int .i64 0, .nilFunc]) Ec (BF x) AS _ HNX.out ?_
    refine ⟨fun h=>absurd (by decide) h,?_⟩
    refine AJ ?_
    go_step
    refine Ab 5 ?_
    refine Y1 6 ?_
    refine Y1 7 ?_
    refine CC 8 ?_
    refine Y3 ?_;clear hS;intro g7 w hS
    refine CC 9 ?_
    refine Y4 ?_;clear hS;intro w hS
    refine Ab 10 ?_
    refine AL AA ?_ _
 all_goals
  repeat' (first|(refine AF ?_;go_step)|fail)
  repeat' (first
   | go_skip|((first|(with_reducible refine F2 ?_)|(with_reducible refine LA ?_));(first|go_big_want|go_step);go_step)|((with_reducible refine Al _ (.pick _ _ _) ?_);first|(refine Ag rfl AA ?_;go_step)|(refine AZ rfl AA ?_;go_step))|((refine AM 28 ?_);(refine MT _ (V.not rfl) AA (fun hB=>?_) (fun hB=>?_)<;>(try exact Na hB)<;>go_step))|((refine AM 35 ?_);(refine Bz _ (V.neq rfl rfl) AA (fun hB=>?_) (fun hB=>?_)<;>(try exact Ak)<;>go_step))|((refine AM 39 ?_);(refine Bz _ (V.geq rfl rfl) AA (fun hB=>?_) (fun hB=>?_)<;>(try exact Ak)<;>go_step))|((with_reducible refine Al _ (.call ⟨.builtin .len,_,_⟩) ?_);(refine AY AA (V.len Tryz.underlying22 rfl) ?_;go_step))|((with_reducible refine Al _ (.binOp .sub _ _ _ _) ?_);(refine AY AA (V.subI rfl rfl (by omega)) ?_;go_step))|((with_reducible refine Al _ (.fieldAddr 42 _ 0) ?_);(refine AY AA (V.fieldAddr Lf rfl Br) ?_;go_step))|((with_reducible refine Al _ (.binOp .lss _ _ _ _) ?_);(refine AY AA (V.lss rfl rfl) ?_;go_step))|((with_reducible refine Al _ (.load 3 _) ?_);(refine Aq ?_;apply Bp hS 3 _ rfl _ _ rfl (Ac rfl) _;(case hp=>exact AS);(case hc=>rfl);refine AB ?_;go_step))|(refine AF ?_;go_step)|fail)
 all_goals (try exact Ak)
 all_goals
  refine AI (xs:=[_,_]) rfl (.cons (AC.tmp rfl) (.cons (AC.tmp rfl) (.nil))) (by simp) rfl ?_
  exact ⟨rfl,hS.sub Ae⟩
theorem Lx(bst:List Int→Int)(hbst:∀c C S,Mk c c.length C S→An c c.length (lw (Bt C S))=bst c){W w:World}{rs:List Af}{g:Nat}{D:Dk}(hS:St W w (DK g D::rs))(hD:D.ok)(hL:CZ W)(s:ByteArray)(hs:s.size≤300)(w0:ByteArray)(ws:List ByteArray)(hw:Ax s=w0::ws)(c:F6)(hc:FL w0=some c)(hm:DQ c.many ws.length=true)
 (F:(ByteArray×Int)×Dk) (hF1:CQ ws=none→F=((nl,4),D)) (hF2:∀ns,CQ ws=some ns→F=DO bst c D ns):Calls Tryz.prog 10 #[.pointer (some ⟨g,0,none⟩), .string s] w (EC W g F rs):=by
 have HF:=AD fun (w:World)=>C2 w s hs
 have hl:(Ax s).length=ws.length+1:=by rw [hw];rfl
 have hg0:((Ax s).map Value.string)[0]? =some (.string w0):=by rw [hw];rfl
 have hgk:∀i (v:ByteArray),ws[i]? =some v→((Ax s).map Value.string)[1+i]? =some (.string v):=fun i v hv=>by rw [hw,Nat.add_comm,List.map_cons,List.getElem?_cons_succ,List.getElem?_map,hv];rfl
 have hsz:∀i (v:ByteArray),ws[i]? =some v→v.size≤300:=fun i v hv=>Nat.le_trans (E3 s v (by rw [hw];exact List.mem_cons_of_mem _ (List.mem_of_getElem? hv))) hs
 have hkm:ws.length≤1000:=by
  have:=GS s
  rw [hl] at this;omega
 have HGK:=AD hgk
 have HSZ:=AD hsz
 obtain ⟨WV,hWV⟩:∃V,(Ax s).map Value.string=V:=⟨_,rfl⟩
 obtain ⟨k,hk⟩:∃k,ws.length=k:=⟨_,rfl⟩
 rw [hWV] at hg0 HF HGK
 rw [hl,hk] at HF
 rw [hk] at hm hkm
 have HK:=AD hk
 obtain ⟨M,hM⟩:∃M,c.many=M:=⟨_,rfl⟩
 obtain ⟨KF,hKF⟩:∃K,kc c=K:=⟨_,rfl⟩
 have HNN:=AD fun x=>(show BF x w0=some (.agg #[.int .i64 M, .func (.func KF) #[] (Ci x c)]) by unfold BF;rw [hc,←hM,←hKF];rfl)
 have hMr: -1≤M∧M≤3:=by rw [←hM];cases c<;>decide
 have HM:=AD hM
 have HKF:=AD hKF
 rw [hM] at hm
 have hm2:(k:Int)=M∨(M<0∧1≤k):=by unfold DQ at hm;simpa using hm
 have HMO:=AD hm
 have HF1:=AD hF1
 have HF2:=AD hF2
 clear hw hc hl hWV hgk hsz hk hM hKF hm hF1 hF2
 go_enter Tryz.func10,Tryz.ntmps10
 repeat' (first
  | (refine Av 12 ?_);refine Aw AA Tryz.call12 (HF.out _) ?_;rintro e w ⟨A,n,hn,rfl,hS2⟩;subst hn;replace hS:=hS.call1 hS2;clear hS2;refine A9 ?_;go_step|refine X0 ?_|refine M0 ?_|refine Mz ?_|refine AF ?_;go_step|fail)
 all_goals (try exact Ak)
 refine AT [4,9] (fun w=>St W w [own 9 1 (some ⟨A,0,none⟩) (k+1) (k+1) WV]) AA ?_
 replace hS:=hS.drew
 focus
  refine Ab 1 ?_
  refine QC 2 ?_
  refine Y9 3 [4,5,6,7,9,10] ?_
  refine Dx [0,8] AA (by simp) (.cons Cy AA ?_ (.cons Cy AA ?_ (.nil)))
  rotate_left 1
  focus
   refine Y3 ?_;clear hS;intro g7 w hS
   refine CC 0 ?_
   refine BN (f:=14) rfl Tryz.call14 (CD _) ?_;rintro e w ⟨gm,x,rfl,hS2⟩;replace hS:=hS.call hS2;clear hS2;unfold LB at hS;simp only [List.cons_append,List.nil_append] at hS;have hNN:=HNN.out x;obtain ⟨CP,hCP⟩:∃C,Ci x c=C:=⟨_,rfl⟩;rw [hCP] at hNN;have HNX:=AD hNN;have HCP:=AD hCP;clear hNN hCP;refine ⟨_,rfl,?_⟩
   refine ⟨fun _ _=>hS.sub Ae,?_⟩
   refine AJ ?_
   go_step
   refine CC 4 ?_
   refine Bg (enc:=sk) hS _ _ _ rfl gm rfl w0 rfl Tryz.underlying44 (Ah Tryz.underlying9) (.agg #[.int .i64 0, .nilFunc]) Ec (BF x) AS _ HNX.out ?_
   refine ⟨fun h=>absurd (by decide) h,?_⟩
   refine AJ ?_
   go_step
   refine Ab 5 ?_
   refine Y1 6 ?_
   refine Y1 7 ?_
   refine CC 9 ?_
   refine Y4 ?_;clear hS;intro w hS
   refine Ab 10 ?_
   refine AL AA ?_ _
  rotate_right 1
  focus
   refine BN (f:=14) rfl Tryz.call14 (CD _) ?_;rintro e w ⟨gm,x,rfl,hS2⟩;replace hS:=hS.call hS2;clear hS2;unfold LB at hS;simp only [List.cons_append,List.nil_append] at hS;have hNN:=HNN.out x;obtain ⟨CP,hCP⟩:∃C,Ci x c=C:=⟨_,rfl⟩;rw [hCP] at hNN;have HNX:=AD hNN;have HCP:=AD hCP;clear hNN hCP;refine ⟨_,rfl,?_⟩
   refine ⟨fun _ _=>hS.sub Ae,?_⟩
   refine AJ ?_
   go_step
   refine Dx [4,8] AA (by simp) (.cons Cy AA ?_ (.cons Cy AA ?_ (.nil)))
   rotate_left 1
   focus
    refine Y3 ?_;clear hS;intro g7 w hS
    refine CC 4 ?_
    refine Bg (enc:=sk) hS _ _ _ rfl gm rfl w0 rfl Tryz.underlying44 (Ah Tryz.underlying9) (.agg #[.int .i64 0, .nilFunc]) Ec (BF x) AS _ HNX.out ?_
    refine ⟨fun h=>absurd (by decide) h,?_⟩
    refine AJ ?_
    go_step
    refine Ab 5 ?_
    refine Y1 6 ?_
    refine Y1 7 ?_
    refine CC 9 ?_
    refine Y4 ?_;clear hS;intro w hS
    refine Ab 10 ?_
    refine AL AA ?_ _
   rotate_right 1
   focus
    refine Bg (enc:=sk) hS _ _ _ rfl gm rfl w0 rfl Tryz.underlying44 (Ah Tryz.underlying9) (.agg #[.int .i64 0, .nilFunc]) Ec (BF x) AS _ HNX.out ?_
    refine ⟨fun h=>absurd (by decide) h,?_⟩
    refine AJ ?_
    go_step
    refine Ab 5 ?_
    refine Y1 6 ?_
    refine Y1 7 ?_
    refine CC 8 ?_
    refine Y3 ?_;clear hS;intro g7 w hS
    refine CC 9 ?_
    refine Y4 ?_;clear hS;intro w hS
    refine Ab 10 ?_
    refine AL AA ?_ _
 all_goals
  repeat' (first|(refine AF ?_;go_step)|fail)
  repeat' (first
   | go_skip|((first|(with_reducible refine F2 ?_)|(with_reducible refine LA ?_));(first|go_big_want|go_step);go_step)|((with_reducible refine Al _ (.pick _ _ _) ?_);first|(refine Ag rfl AA ?_;go_step)|(refine AZ rfl AA ?_;go_step))|((refine AM 28 ?_);(refine MT _ (V.not rfl) AA (fun hB=>?_) (fun hB=>?_)<;>(try exact Na hB)<;>go_step))|((refine AM 35 ?_);(refine Bz _ (V.neq rfl rfl) AA (fun hB=>?_) (fun hB=>?_)<;>(try exact Ak)<;>go_step))|((refine AM 39 ?_);(refine Bz _ (V.geq rfl rfl) AA (fun hB=>?_) (fun hB=>?_)<;>(try exact Ak)<;>go_step))|((with_reducible refine Al _ (.call ⟨.builtin .len,_,_⟩) ?_);(refine AY AA (V.len Tryz.underlying22 rfl) ?_;go_step))|((with_reducible refine Al _ (.binOp .sub _ _ _ _) ?_);(refine AY AA (V.subI rfl rfl (by omega)) ?_;go_step))|((with_reducible refine Al _ (.fieldAddr 42 _ 0) ?_);(refine AY AA (V.fieldAddr Lf rfl Br) ?_;go_step))|((with_reducible refine Al _ (.binOp .lss _ _ _ _) ?_);(refine AY AA (V.lss rfl rfl) ?_;go_step))|((with_reducible refine Al _ (.load 3 _) ?_);(refine Aq ?_;apply Bp hS 3 _ rfl _ _ rfl (Ac rfl) _;(case hp=>exact AS);(case hc=>rfl);refine AB ?_;go_step))|(refine AF ?_;go_step)|fail)
 all_goals (try exact Ak)
 all_goals
  repeat' (first
   | refine X1 ?_|(with_reducible refine Al _ (.slice 22 _ _ _ _) ?_);(refine AY AA (V.slice Tryz.underlying22 OS rfl (by (first|exact Lo.none|exact Lo.some rfl BW)) (by (first|exact Up.none|exact Up.some rfl BW)) (by omega) (by omega)) ?_;go_step)|refine M0 ?_|refine AF ?_;go_step|fail)
 all_goals
  obtain ⟨ca,hca,hcb⟩:∃ca,Et (some ⟨A,0,none⟩) (k+1) 1 1=ca∧(0<k→ca=some ⟨A,1,none⟩):=⟨_,rfl,fun h=>by unfold Et;rw [if_neg (by omega)];rfl⟩
  rw [hca]
  clear hca
  replace hS:=hS.nilk 3 1 .i64
  go_loopg [9,50] k (fun gk ov kv w=>∃(i:Nat) (ao:Option Addr) (co:Nat) (L:List Int),gk+i=k∧ov= .slice ao i co∧kv= .int .i64 i∧CQ (ws.take i)=some L∧L.length=i∧OD L i∧St W w (own 3 1 ao i co (L.map (Value.int .i64))::blk g7 [.int .i64 M, .func (.func KF) #[] CP]::blk x.w [.func (.func 22) #[] #[]]::blk x.b [.func (.func 24) #[] #[]]::blk x.d [.func (.func 26) #[] #[]]::blk x.u [.func (.func 28) #[] #[]]::blk x.t [.func (.func 32) #[] #[]]::blk x.p [.func (.func 33) #[] #[]]::own 9 1 (some ⟨A,0,none⟩) (k+1) (k+1) WV::DK g D::rs))
  case atStart=>exact ⟨0,none,0,[],by omega,rfl,rfl,rfl,rfl,FB,hS.sub Ae⟩
  case round=>
   clear hS
   obtain ⟨i,ao,co,L,hi,rfl,rfl,hLn,hLl,hLr,hS⟩:=hrel
   have HLN:=AD (And.intro hLn (And.intro hLl hLr))
   clear hLn hLl hLr
   by_cases hlt:i<k
   ·obtain ⟨v,hv⟩:∃v,ws[i]? =some v:=⟨_,List.getElem?_eq_getElem (by rw [HK.out];exact hlt)⟩
    have hgi:=HGK.out i v hv
    have HN:=AD fun (w:World)(hx:AP W w)=>JA w v (HSZ.out i v hv) (hL.ext hx)
    obtain rfl:=hcb (by omega)
    cases hnum:EN v with
    | none=>
      obtain rfl:=HF1.out (Fa hv hnum)
      have HNU:=AD hnum
      clear hv hnum
      repeat' (first
       | (refine Av 15 ?_);refine Aw AA Tryz.call15 (HN.out _ hS.1) ?_;rintro e w ⟨n9,b9,rfl,-,h2,hE⟩;obtain rfl:=h2 HNU.out;clear h2;replace hS:=hS.ext hE;clear hE;refine A9 ?_;go_step|refine X0 ?_|refine X3 ?_|refine J3 52 ?_|refine X8 ?_|refine P1 ?_|refine QX ?_|refine AF ?_;go_step|fail)
      all_goals (try exact Ak)
      refine AI (xs:=[_,_]) rfl (.cons (AC.tmp rfl) (.cons (AC.tmp rfl) (.nil))) (by simp) rfl ?_
      exact ⟨rfl,hS.sub Ae⟩
    | some n=>
      have ht:ws.take (i+1)=ws.take i++[v]:=by rw [List.take_add_one,hv];rfl
      have hsn:=Fb HLN.out.1 hnum
      rw [←ht] at hsn
      have HSN:=AD hsn
      have HRG:=AD (L6 hnum)
      have HNU:=AD hnum
      clear hv hnum ht hsn
      repeat' (first
       | (refine Av 15 ?_);refine Aw AA Tryz.call15 (HN.out _ hS.1) ?_;rintro e w ⟨n9,b9,rfl,h1,-,hE⟩;obtain ⟨rfl,rfl⟩:=h1 _ HNU.out;clear h1;replace hS:=hS.ext hE;clear hE;refine A9 ?_;go_step|refine X0 ?_|refine X3 ?_|refine J3 52 ?_|refine X8 ?_|refine P1 ?_|refine X5 ?_|refine QX ?_|refine PS 63 ?_;clear hS;intro g63 w hS|refine PU 64 ?_;clear hS;intro ad64 c64 w hS|refine AF ?_;go_step|fail)
      all_goals (try exact Ak)
      go_roundg (gk-1)
      case measure=>omega
      case rel=>
       refine ⟨i+1,_,_,_,by omega,rfl,by go_num,HSN.out,by rw [List.length_append,HLN.out.2.1];rfl,?_,hS.sub Ae⟩
       intro j hj
       by_cases hji:j<i
       ·have e:AG (L++[n9]) j=AG L j:=by simp [AG,List.getD,List.getElem?_append_left (show j<L.length by rw [HLN.out.2.1];exact hji)]
        rw [e];exact HLN.out.2.2 j hji
       have hje:j=L.length:=by rw [HLN.out.2.1];omega
       have e:AG (L++[n9]) j=n9:=by rw [hje];simp [AG,List.getD]
       rw [e];exact HRG.out
   obtain rfl:i=k:=by omega
   have htk:ws.take i=ws:=List.take_of_length_le (by rw [HK.out];exact Nat.le_refl _)
   have hln:=HLN.out.1
   rw [htk] at hln
   obtain rfl:=HF2.out L hln
   have HCM:=AD (show Calls Tryz.prog KF (#[.pointer (some ⟨g,0,none⟩), .slice ao i co]++CP) wr (CJ W g (DO bst c D L) (NS ao i co L::(LB x++(blk g7 [.int .i64 M, .func (.func KF) #[] CP]::own 9 1 (some ⟨A,0,none⟩) (i+1) (i+1) WV::rs)))) by
    have h9:=NC bst hbst c x (W:=W) (w:=wr) (rs:=blk g7 [.int .i64 M, .func (.func KF) #[] CP]::own 9 1 (some ⟨A,0,none⟩) (i+1) (i+1) WV::rs) (g:=g) (D:=D) (ns:=L) (ad:=ao) (n:=i) (cc:=co) ⟨(show St W wr (DK g D::own 3 1 ao i co (L.map (Value.int .i64))::blk x.w [.func (.func 22) #[] #[]]::blk x.b [.func (.func 24) #[] #[]]::blk x.d [.func (.func 26) #[] #[]]::blk x.u [.func (.func 28) #[] #[]]::blk x.t [.func (.func 32) #[] #[]]::blk x.p [.func (.func 33) #[] #[]]::blk g7 [.int .i64 M, .func (.func KF) #[] CP]::own 9 1 (some ⟨A,0,none⟩) (i+1) (i+1) WV::rs) from hS.sub Ae),hD,by omega,HLN.out.2.2,hL⟩ (by rw [HM.out];exact HMO.out)
    rw [HKF.out,HCP.out] at h9
    exact h9)
   have HKC:=AD (show ∀(args:Array Value)(w:World),(callFunc KF args).run Tryz.prog w= .ok (.enter KF args) w by rw [←HKF.out];exact NO c)
   clear htk hln
   repeat' (first
    | refine X3 ?_|refine AF ?_;go_step|fail)
   all_goals (try exact Ak)
   repeat' (first
    | (refine AM 70 ?_);refine Aq ?_;refine BT (o:=⟨some 70,_,_,_,_,_⟩) (f:=KF) rfl rfl HKC.out HCM.out ?_;clear hS;rintro e w ⟨rfl,hS⟩;unfold NS LB at hS;simp only [List.cons_append,List.nil_append] at hS;refine A9 ?_;go_step|refine X0 ?_|(with_reducible refine Al _ (.fieldAddr 42 _ 1) ?_);(refine AY AA (V.fieldAddr ON rfl Br) ?_;go_step)|refine X8 ?_|(with_reducible refine Al _ (.load 40 _) ?_);(refine Aq ?_;apply Bp hS 40 _ rfl _ _ rfl (Ac rfl) _;(case hp=>exact AS);(case hc=>rfl);refine AB ?_;go_step)|refine AF ?_;go_step|fail)
   refine AI (xs:=[_,_]) rfl (.cons (AC.tmp rfl) (.cons (AC.tmp rfl) (.nil))) (by simp) rfl ?_
   exact ⟨rfl,hS.sub Ae⟩
theorem Lv(bst:List Int→Int)(hbst:∀c C S,Mk c c.length C S→An c c.length (lw (Bt C S))=bst c){W w:World}{rs:List Af}{g:Nat}{D:Dk}(hS:St W w (DK g D::rs))(hD:D.ok)(hL:CZ W)(s:ByteArray)(hs:s.size≤300):
 Calls Tryz.prog 10 #[.pointer (some ⟨g,0,none⟩), .string s] w (EC W g (As bst D s) rs):=by
 cases hw:Ax s with
 | nil=>
   have e:As bst D s=((nl,4),D):=by unfold As;rw [hw]
   rw [e];exact KT hS s hs hw
 | cons w0 ws=>
   cases hc:FL w0 with
   | none=>
     have e:As bst D s=((nl,4),D):=by unfold As;rw [hw];dsimp only;rw [hc]
     rw [e];exact NQ hS s hs w0 ws hw hc
   | some c=>
     cases hm:DQ c.many ws.length with
     | false=>
       have e:As bst D s=((nl,4),D):=by unfold As;rw [hw];dsimp only;rw [hc];dsimp only;rw [hm];rfl
       rw [e];exact Lw hS s hs w0 ws hw c hc hm
     | true=>
       refine Lx bst hbst hS hD hL s hs w0 ws hw c hc hm (As bst D s) (fun h=>?_) (fun ns h=>?_)
       ·unfold As;rw [hw];dsimp only;rw [hc];dsimp only;rw [hm,h];rfl
       unfold As;rw [hw];dsimp only;rw [hc];dsimp only;rw [hm,h];rfl
theorem Kd:(0:Int)≤0∧(0:Int)≤5:=by omega
theorem Ke:(0:Int)≤1∧(1:Int)≤5:=by omega
theorem Kf:(0:Int)≤4∧(4:Int)≤5:=by omega
theorem Kg:(0:Int)≤5∧(5:Int)≤5:=by omega
theorem OH(l:List Int):0≤bE l∧bE l≤5:=by
 unfold bE;split
 ·omega
 split<;>omega
theorem E9(D:Dk)(R:List Int)(E:Int)(h:0≤E∧E≤5):0≤(Io D R E).1.2∧(Io D R E).1.2≤5:=by
 unfold Io;split
 ·exact h
 exact (by first|exact Kd|exact Ke|exact Kf|exact Kg)
theorem LX(bst:List Int→Int)(c:F6)(D:Dk)(n:List Int):0≤(DO bst c D n).1.2∧(DO bst c D n).1.2≤5:=by
 cases c
 case kSet=>
  show 0≤(En D n).1.2∧(En D n).1.2≤5
  unfold En;split
  ·exact (by first|exact Kd|exact Ke|exact Kf|exact Kg)
  split<;>exact (by first|exact Kd|exact Ke|exact Kf|exact Kg)
 case kCoarse=>
  show 0≤(BP D n).1.2∧(BP D n).1.2≤5
  unfold BP;split<;>exact (by first|exact Kd|exact Ke|exact Kf|exact Kg)
 case kShow=>exact (by first|exact Kd|exact Ke|exact Kf|exact Kg)
 case kTokens=>
  show 0≤EW 0 D.b∧EW 0 D.b≤5
  unfold EW;split<;>omega
 case kWave=>exact E9 _ _ _ (by unfold MV;split<;>omega)
 case kBack=>exact E9 _ _ _ (by unfold MV;split<;>omega)
 case kDown=>exact E9 _ _ _ (by unfold EG;split<;>omega)
 case kUp=>exact E9 _ _ _ (by unfold Nl;split<;>omega)
 case kSize=>
  show 0≤(C6 (AG n 0)).2∧(C6 (AG n 0)).2≤5
  unfold C6;split<;>exact (by first|exact Kd|exact Ke|exact Kf|exact Kg)
 case kTint=>
  show 0≤(Ct OA N8 N9 (AG n 0) (AG n 1) (AG n 2)).2∧(Ct OA N8 N9 (AG n 0) (AG n 1) (AG n 2)).2≤5
  unfold Ct;split<;>exact (by first|exact Kd|exact Ke|exact Kf|exact Kg)
 case kPlain=>
  show 0≤(Ct FU FT FS (AG n 0) (AG n 1) (AG n 2)).2∧(Ct FU FT FS (AG n 0) (AG n 1) (AG n 2)).2≤5
  unfold Ct;split<;>exact (by first|exact Kd|exact Ke|exact Kf|exact Kg)
 case kBest=>
  show 0≤(Dl bst n).2∧(Dl bst n).2≤5
  unfold Dl;split
  ·exact OH n
  exact (by first|exact Kd|exact Ke|exact Kf|exact Kg)
theorem KS(bst:List Int→Int)(D:Dk)(s:ByteArray):0≤(As bst D s).1.2∧(As bst D s).1.2≤5:=by
 unfold As
 split
 ·exact (by first|exact Kd|exact Ke|exact Kf|exact Kg)
 split
 ·exact (by first|exact Kd|exact Ke|exact Kf|exact Kg)
 split
 ·split
  ·exact (by first|exact Kd|exact Ke|exact Kf|exact Kg)
  exact LX bst _ _ _
 exact (by first|exact Kd|exact Ke|exact Kf|exact Kg)
theorem KN(n:Int)(h:0≤n∧n≤5):(Ba n).size≤21:=by
 have:=Lib.itoa_length_le n (by omega) (by omega)
 show (Lib.itoa n).toArray.size≤_
 rw [List.size_toArray]
 exact this
theorem Kh(bst:List Int→Int)(a:List ByteArray)(s:ByteArray)(D:Dk):CS bst D (a++[s])=CS bst D a++[F7 (As bst (Ca bst D a) s)]:=by
 rw [IY];rfl
theorem Ix(bst:List Int→Int)(a:List ByteArray)(s:ByteArray)(D:Dk):Ca bst D (a++[s])=(As bst (Ca bst D a) s).2:=by
 rw [GQ];rfl
theorem H8(bst:List Int→Int):∀(a:List ByteArray){D:Dk},D.ok→(Ca bst D a).ok
 | [],_,h=>h
 | s::a,D,h=>by rw [Ca];exact H8 bst a (Lu bst h s)
def Me(L:List ByteArray):Prop:=L.length≤60∧∀s∈L,s.size≤300
def FG(bst:List Int→Int)(w0:World)(L:List ByteArray)(n:Nat)(e:Ending)(w:World):Prop:=
 (¬Me L→e= .returned (.tuple #[.slice none 0 0, .int .i64 2])∧AP w0 w)∧
 (Me L→∃(a:Option Addr) (c:Nat),e= .returned (.tuple #[.slice a n c, .int .i64 0])∧St w0 w [own 9 1 a n c ((CS bst CL L).map Value.string)])
theorem LT(w:World):(Instr.build 35 #[]).run Tryz.prog w= .ok (.agg (AE [.ints (List.replicate 64 0), .ints (List.replicate 64 0)]).toArray) w:=by kernel_rfl
theorem MD(bst:List Int→Int)(w0:World)(ad:Option Addr)(n c:Nat)(L:List ByteArray)(hl:L.length=n)(hn:60<n)(hn2:n≤9223372036854775807):Calls Tryz.prog 6 #[.slice ad n c] w0 (FG bst w0 L n):=by
 have hS:=St.start w0
 have HB:=AD (show ¬Me L from fun h=>by have:=h.1;omega)
 clear hl
 go_enter Tryz.func6,Tryz.ntmps6
 repeat' (first
  | refine X0 ?_|refine M0 ?_|refine X9 ?_|refine AF ?_;go_step|fail)
 all_goals (try exact Ak)
 refine AI (xs:=[_,_]) rfl (.cons (AC.tmp rfl) (.cons (AC.tmp rfl) (.nil))) (by simp) rfl ?_
 exact ⟨fun _=>⟨rfl,hS.1⟩,fun h=>absurd h HB.out⟩
theorem Kk(bst:List Int→Int)(hbst:∀c C S,Mk c c.length C S→An c c.length (lw (Bt C S))=bst c)(w0:World)(hL:CZ w0)(ad:Option Addr)(n c:Nat)(L:List ByteArray)(hv:Sl w0 1 (.slice ad n c) n (L.map Value.string))(hn:n≤60):Calls Tryz.prog 6 #[.slice ad n c] w0 (FG bst w0 L n):=by
 have hS:=St.start w0
 have hl:L.length=n:=by have:=hv.1;simpa using this
 have HLN:=AD hl
 have HCELL:=AD (show ∀i s,L[i]? =some s→∃b o,ad=some ⟨b,o,none⟩∧w0.cell? ⟨b,o+i,none⟩=some (.string s) from fun i s hs=>by
  have hi:=(List.getElem?_eq_some_iff.1 hs).1
  obtain ⟨b,o,e,h⟩:=Be hv (by omega)
  exact ⟨b,o,e,h i _ (by rw [List.getElem?_map,hs];rfl)⟩)
 clear hl
 go_enter Tryz.func6,Tryz.ntmps6
 repeat' (first
  | refine X0 ?_|refine M0 ?_|refine X9 ?_|refine AF ?_;go_step|fail)
 all_goals (try exact Ak)
 repeat' (first
  | refine AF ?_;go_step|fail)
 go_loopg [18] n (fun gk kv w=>∃i:Nat,gk+i=n∧kv= .int .i64 i∧(∀j s,j<i→L[j]? =some s→s.size≤300)∧St w0 w [])
 case atStart=>exact ⟨0,rfl,rfl,fun j s hj=>by omega,hS⟩
 case round=>
  clear hS
  obtain ⟨i,hi,rfl,hLo,hS⟩:=hrel
  have HLO:=AD hLo
  clear hLo
  by_cases hlt:i<n
  ·obtain ⟨s,hs⟩:∃s,L[i]? =some s:=⟨_,List.getElem?_eq_getElem (by rw [HLN.out];exact hlt)⟩
   obtain ⟨bl,ol,rfl,hcl⟩:=HCELL.out i s hs
   have HS:=AD hs
   clear hs
   by_cases hsz:s.size≤300
   ·repeat' (first
     | refine OE 23 ?_|refine X0 ?_|refine X3 ?_|refine J3 20 ?_|refine X9 ?_|refine X5 ?_|refine Nu ?_|refine AF ?_;go_step|fail)
    all_goals (try exact Ak)
    go_roundg (gk-1)
    case measure=>omega
    case rel=>
     refine ⟨i+1,by omega,by go_num,fun j t hj ht=>?_,hS⟩
     by_cases hji:j<i
     ·exact HLO.out j t hji ht
     obtain rfl:j=i:=by have h9:j<i+1:=hj;omega
     rw [HS.out] at ht;cases ht;exact hsz
   have HB:=AD (show ¬Me L from fun h=>hsz (h.2 s (List.mem_of_getElem? HS.out)))
   repeat' (first
    | refine OE 23 ?_|refine X0 ?_|refine X3 ?_|refine J3 20 ?_|refine X9 ?_|refine Nu ?_|refine AF ?_;go_step|fail)
   all_goals (try exact Ak)
   refine AI (xs:=[_,_]) rfl (.cons (AC.tmp rfl) (.cons (AC.tmp rfl) (.nil))) (by simp) rfl ?_
   exact ⟨fun _=>⟨rfl,hS.1⟩,fun h=>absurd h HB.out⟩
  obtain rfl:i=n:=by omega
  have HG:=AD (show Me L from ⟨by rw [HLN.out];exact hn,fun s hs=>by
   obtain ⟨j,hj,rfl⟩:=List.getElem_of_mem hs
   exact HLO.out j _ (by rw [←HLN.out];exact hj) (List.getElem?_eq_getElem hj)⟩)
  clear HLO
  repeat' (first
   | refine X3 ?_|refine AF ?_;go_step|fail)
  all_goals (try exact Ak)
  repeat' (first
   | (refine AM 26 ?_);refine AY AA (V.build (vs:=[]) rfl LT) ?_;go_step|refine X0 ?_|(refine AM 27 ?_);(refine Aq ?_;apply Jy (o:=⟨some 27,_,_,_,_,_⟩) hS 35 _ rfl _ rfl;clear hS;intro g27 w hS;refine AB ?_;go_step)|refine AF ?_;go_step|fail)
  go_loopg [28] 64 (fun gk kv w=>∃j:Nat,gk+j=64∧kv= .int .i64 j∧St w0 w [prt g27 [.ints (List.replicate 64 0), .ints (List.replicate j 1++List.replicate (64-j) 0)]])
  case atStart=>exact ⟨0,rfl,rfl,by rw [show List.replicate 0 (1:Int)++List.replicate (64-0) (0:Int)=List.replicate 64 0 from rfl];exact hS.sub Ae⟩
  case round=>
   clear hS
   obtain ⟨j,hj,rfl,hS⟩:=hrel
   by_cases hlt9:j<64
   ·have hfs:=GT 1 j hlt9
    have hyl:A2 (List.replicate j (1:Int)++List.replicate (64-j) 0) 64:=by unfold A2;simp;omega
    obtain ⟨Y,hY⟩:∃Y,List.replicate j (1:Int)++List.replicate (64-j) 0=Y:=⟨_,rfl⟩
    rw [hY] at hS hfs hyl
    have HFS:=AD hfs
    clear hfs hY
    repeat' (first
     | refine X0 ?_|refine X3 ?_|refine Oj ?_|(with_reducible refine Al _ (.fieldAddr 35 _ 1) ?_);(refine AY AA (V.fieldAddr G6 rfl Br) ?_;go_step)|refine QB 35 ?_|refine X5 ?_|refine QT ?_;clear hS;intro w hS|refine AF ?_;go_step|fail)
    all_goals (try exact Ak)
    go_roundg (gk-1)
    case measure=>omega
    case rel=>
     rw [show 64+j-64=j by omega] at hS
     exact ⟨j+1,by omega,by go_num,by rw [←HFS.out];exact hS.sub Ae⟩
   obtain rfl:j=64:=by omega
   rw [show List.replicate 64 (1:Int)++List.replicate (64-64) (0:Int)=List.replicate 64 1 from rfl] at hS
   repeat' (first
    | refine X0 ?_|refine X3 ?_|refine AF ?_;go_step|fail)
   all_goals (try exact Ak)
   repeat' (first
    | refine X1 ?_|refine M0 ?_|refine AF ?_;go_step|fail)
   replace hS:=hS.nil 9 1
   go_loopg [8,39] i (fun gk ov kv w=>∃(t:Nat) (ao:Option Addr) (co:Nat) (D:Dk),gk+t=i∧ov= .slice ao t co∧kv= .int .i64 t∧D=Ca bst CL (L.take t)∧St w0 w [prt g27 [.ints D.b, .ints D.q],own 9 1 ao t co ((CS bst CL (L.take t)).map Value.string)])
   case atStart=>exact ⟨0,none,0,CL,by omega,rfl,rfl,rfl,(show St w0 _ [prt g27 [.ints (List.replicate 64 0), .ints (List.replicate 64 1)],own 9 1 none 0 0 []] from hS.sub Ae)⟩
   case round=>
    clear hS
    obtain ⟨t,ao,co,D,ht,rfl,rfl,hD,hS⟩:=hrel
    have HD:=AD hD
    clear hD
    by_cases hlt3:t<i
    ·obtain ⟨s,hs⟩:∃s,L[t]? =some s:=⟨_,List.getElem?_eq_getElem (by rw [HLN.out];exact hlt3)⟩
     obtain ⟨bl,ol,rfl,hcl⟩:=HCELL.out t s hs
     have htk:L.take (t+1)=L.take t++[s]:=by rw [List.take_add_one,hs];rfl
     have hrn:=Kh bst (L.take t) s CL
     have hdn:=Ix bst (L.take t) s CL
     rw [←htk,←HD.out] at hrn hdn
     have hss:=HG.out.2 s (List.mem_of_getElem? hs)
     have hok:D.ok:=by rw [HD.out];exact H8 bst _ La
     have HC:=AD fun (w:World)(h:St w0 w (DK g27 D::[own 9 1 ao t co ((CS bst CL (L.take t)).map Value.string)]))=>Lv bst hbst h hok hL s hss
     have hrg:=KS bst D s
     obtain ⟨r,hr⟩:∃r,As bst D s=r:=⟨_,rfl⟩
     rw [hr] at hrn hdn HC hrg
     obtain ⟨⟨a,E⟩,D2⟩:=r
     obtain ⟨R,hR⟩:∃R,(CS bst CL (L.take t)).map Value.string=R:=⟨_,rfl⟩
     have hrn2:(CS bst CL (L.take (t+1))).map Value.string=R++[.string (F7 ((a,E),D2))]:=by rw [hrn,List.map_append,hR];rfl
     rw [hR] at hS HC
     have HRN:=AD hrn2
     have HDN:=AD hdn
     dsimp only at hrg
     clear hrn hdn hR hr hs htk
     by_cases hE:E=0
     ·subst hE
      have hA:F7 ((a,0),D2)=a:=by unfold F7;rfl
      rw [hA] at HRN
      repeat' (first
       | (refine Av 10 ?_);refine Aw AA Tryz.call10 (HC.out _ (show St w0 _ [prt g27 [.ints D.b, .ints D.q],own 9 1 ao t co R] from hS.sub Ae)) ?_;rintro e w ⟨rfl,hS2⟩;clear hS;have hS:St w0 w [prt g27 [.ints D2.b, .ints D2.q],own 9 1 ao t co R]:=hS2;clear hS2;refine A9 ?_;go_step|refine X0 ?_|refine X3 ?_|refine J3 41 ?_|refine X8 ?_|refine J1 ?_|refine Nu ?_|refine AF ?_;go_step|fail)
      all_goals (try exact Ak)
      repeat' (first
       | refine X0 ?_|refine X5 ?_|refine My 56 ?_;clear hS;intro g56 w hS|(refine AM 57 ?_);(refine Aq ?_;apply Am (o:=⟨some 57,_,_,_,_,_⟩) hS _ _ 22 rfl 9 1 16 IA _ _ _ _ rfl;(case hp=>exact AS);(case hx=>exact rfl);(case hm=>(first|exact hS.slBlk AS (by rfl) (by decide)|exact hS.sl AS|with_reducible assumption|exact Sl.ext (by with_reducible assumption) hS.1|exact Sl.nil _ _|exact Sl.ext (by assumption) hS.1|assumption));(case h1=>(first|exact B6 rfl|(intro u hu;obtain ⟨x,_,rfl⟩:=List.mem_map.1 hu;rfl)));(case h63=>unfold maxLen;omega);(case hb=>omega);clear hS;intro ad57 c57 w hS;(first|simp only [DC] at hS|simp only [DD] at hS|simp only [DE] at hS|simp only [DF] at hS|simp only [DG] at hS|skip);refine AB ?_;go_step)|refine AF ?_;go_step|fail)
      go_roundg (gk-1)
      case measure=>omega
      case rel=>exact ⟨t+1,_,_,D2,by omega,rfl,by go_num,HDN.out.symm,by rw [HRN.out];exact hS.sub Ae⟩
     have hA:F7 ((a,E),D2)=IB E:=by unfold F7;rw [if_pos hE]
     rw [hA] at HRN
     have HI:=AD fun (w:World)(hx:AP w0 w)=>FW w E (by omega) (hL.ext hx)
     have hIl:=KN E hrg
     have hEB:IB E=⟨#[101,114,114,111,114,32]⟩++Ba E:=rfl
     rw [hEB] at HRN
     obtain ⟨I,hI⟩:∃I,Ba E=I:=⟨_,rfl⟩
     rw [hI] at HI HRN hIl
     have hsum:(⟨#[101,114,114,111,114,32]⟩:ByteArray).size+I.size≤1000000:=by show 6+I.size≤_;omega
     clear hI hEB hA
     repeat' (first
      | (refine Av 10 ?_);refine Aw AA Tryz.call10 (HC.out _ (show St w0 _ [prt g27 [.ints D.b, .ints D.q],own 9 1 ao t co R] from hS.sub Ae)) ?_;rintro e w ⟨rfl,hS2⟩;clear hS;have hS:St w0 w [prt g27 [.ints D2.b, .ints D2.q],own 9 1 ao t co R]:=hS2;clear hS2;refine A9 ?_;go_step|(refine Av 11 ?_);refine Aw AA Tryz.call11 (HI.out _ hS.1) (Dj hS ?_);clear hS;intro w hS;go_step|(refine AM 53 ?_);refine AY AA (V.addS rfl rfl hsum) ?_;go_step|refine X0 ?_|refine X3 ?_|refine J3 41 ?_|refine X8 ?_|refine J1 ?_|refine X5 ?_|refine Nu ?_|refine My 56 ?_;clear hS;intro g56 w hS|(refine AM 57 ?_);(refine Aq ?_;apply Am (o:=⟨some 57,_,_,_,_,_⟩) hS _ _ 22 rfl 9 1 16 IA _ _ _ _ rfl;(case hp=>exact AS);(case hx=>exact rfl);(case hm=>(first|exact hS.slBlk AS (by rfl) (by decide)|exact hS.sl AS|with_reducible assumption|exact Sl.ext (by with_reducible assumption) hS.1|exact Sl.nil _ _|exact Sl.ext (by assumption) hS.1|assumption));(case h1=>(first|exact B6 rfl|(intro u hu;obtain ⟨x,_,rfl⟩:=List.mem_map.1 hu;rfl)));(case h63=>unfold maxLen;omega);(case hb=>omega);clear hS;intro ad57 c57 w hS;(first|simp only [DC] at hS|simp only [DD] at hS|simp only [DE] at hS|simp only [DF] at hS|simp only [DG] at hS|skip);refine AB ?_;go_step)|refine AF ?_;go_step|fail)
     all_goals (try exact Ak)
     go_roundg (gk-1)
     case measure=>omega
     case rel=>exact ⟨t+1,_,_,D2,by omega,rfl,by go_num,HDN.out.symm,by rw [HRN.out];exact hS.sub Ae⟩
    obtain rfl:t=i:=by omega
    have htk:L.take t=L:=List.take_of_length_le (by rw [HLN.out];exact Nat.le_refl _)
    rw [htk] at hS
    repeat' (first
     | refine X0 ?_|refine X3 ?_|refine AF ?_;go_step|fail)
    all_goals (try exact Ak)
    repeat' (first
     | refine AF ?_;go_step|fail)
    refine AI (xs:=[_,_]) rfl (.cons (AC.tmp rfl) (.cons (AC.tmp rfl) (.nil))) (by simp) rfl ?_
    exact ⟨fun h=>absurd HG.out h,fun _=>⟨_,_,rfl,hS.sub Ae⟩⟩
theorem Hf(bst:List Int→Int)(hbst:∀c C S,Mk c c.length C S→An c c.length (lw (Bt C S))=bst c)(w0:World)(hL:CZ w0)(ad:Option Addr)(n c:Nat)(L:List ByteArray)(hv:Sl w0 1 (.slice ad n c) n (L.map Value.string))(hn:n≤9223372036854775807):Calls Tryz.prog 6 #[.slice ad n c] w0 (FG bst w0 L n):=by
 by_cases h:n≤60
 ·exact Kk bst hbst w0 hL ad n c L hv h
 exact MD bst w0 ad n c L (by have:=hv.1;simpa using this) (by omega) hn
theorem CA{P:Program}{x:String×DataW Unit}{r:List (String×DataW Unit)}{w:World}(h:laidMet P (x::r) w):laidMet P r w:=by
 obtain ⟨ps,⟨g,t,cs,fuel,p,q,h1,h2,h3,h4,h5,rfl⟩,hnd,hall⟩:=h
 exact ⟨q,h5,(List.nodup_append.1 hnd).2.1,fun b off hm=>hall b off (List.mem_append_right _ hm)⟩
theorem JG{H:Type}{enc:TypeId×Value→H}{P:Program}{w:World}{base:Nat}{spare:Nat→Bool}{held:Bool}{r:TypeId→List Value→Option (DataW H×List MemPlace)}{t:TypeId}{cs:List Value}{nm:String}{d:DataW H}{p:List MemPlace}(h:DataW.trodStep enc P w base spare held r t cs=some (.iface nm d,p)):∃u v,cs=[.iface u v]:=by
 unfold DataW.trodStep at h
 split at h
 all_goals first
  | exact ⟨_,_,rfl⟩
  | exfalso;simp at h;done|exfalso;split at h<;>simp at h;done|exfalso;simp only [Option.map_eq_some_iff,Prod.mk.injEq] at h;obtain ⟨_,_,h1,_⟩:=h;cases h1;done|exfalso;split at h; · (simp only [Option.map_eq_some_iff,Option.bind_eq_some_iff,Prod.mk.injEq] at h;obtain ⟨_,_,h1,_⟩:=h;cases h1); · cases h|exfalso;split at h; · (simp only [Option.map_eq_some_iff,Option.bind_eq_some_iff,Prod.mk.injEq] at h;obtain ⟨_,_,_,_,h1,_⟩:=h;cases h1); · cases h|exfalso;dsimp only at h;split at h; · (obtain ⟨_,_,h1⟩:=Option.bind_eq_some_iff.1 h;obtain ⟨_,_,h2⟩:=Option.map_eq_some_iff.1 h1;cases h2); · cases h|exfalso;split at h; · (split at h; · (obtain ⟨_,_,h1⟩:=Option.bind_eq_some_iff.1 h;dsimp only at h1;split at h1; · cases h1; · cases h1); · cases h); · cases h
  | skip
 ·exfalso
  split at h
  ·obtain ⟨_,_,h1⟩:=Option.bind_eq_some_iff.1 h
   obtain ⟨_,_,h2⟩:=Option.map_eq_some_iff.1 h1
   cases h2
  cases h
 exfalso
 split at h
 ·split at h
  ·obtain ⟨_,_,h1⟩:=Option.bind_eq_some_iff.1 h
   dsimp only at h1
   split at h1
   ·cases h1
   cases h1
  cases h
 cases h
theorem FY{P:Program}{n:String}{tn:String}{d:DataW Unit}{r:List (String×DataW Unit)}{w:World}(h:laidMet P ((n, .iface tn d)::r) w){g:Nat}(hg:P.globalNamed n=some g):∃ev,w.cell? ⟨g,0,none⟩=some ev∧(ev= .nilIface∨∃te pe,ev= .iface te pe):=by
 obtain ⟨ps,⟨g',t,cs,fuel,p,q,h1,h2,h3,h4,h5,rfl⟩,hnd,hall⟩:=h
 obtain rfl:=Option.some.inj (hg.symm.trans h1)
 cases fuel with
 | zero=>simp [DataW.trod] at h4
 | succ m=>
   rw [DataW.trod_step] at h4
   obtain ⟨u,v,hcs⟩:=JG h4
   refine ⟨.iface u v,?_, .inr ⟨u,v,rfl⟩⟩
   rw [World.var?_cell hg h3,←Array.getElem?_toList,hcs]
   rfl
theorem Lt{W:World}(h:laidMetH Tryz.prog Rows.deskSetRow.laid W):CZ W:=by
 have h0:laidMet Tryz.prog Rows.deskSetRow.laid W:=by rw [←MakeChecks.laidMetH_plain _ _ _ AA];exact h
 have h3:=CA (CA h0)
 have h4:=CA h3
 have h5:=CA h4
 refine ⟨Lib.tabIs_of_head (g:=0) (t:=129) (e:=92) (n:=20) AA AA AA AA AA AA (k:= .u64) (zs:=Lib.pow10Tab) h3,FY h5 AA,FY h4 AA⟩
end Go.Proofs.YtngojkompmcceaaGreatDoor
namespace Go.Proofs.YtngojkompmcceaaGreatDoor
attribute [local irreducible] Region.wanted
open Go.Lib
set_option linter.unusedVariables false
set_option maxRecDepth 100000
set_option maxHeartbeats 8000000
theorem Jg(k:Nat)(h:k<10):(UInt8.ofNat (48+k)).toNat=48+k:=by
 rw [UInt8.toNat_ofNat'];omega
theorem Dp:∀(u:Nat)(b:UInt8),b∈decDigits u→48≤b.toNat∧b.toNat≤57:=by
 intro u
 induction u using Nat.strongRecOn with
 | _ u ih=>
   intro b hb
   by_cases h:u<10
   ·rw [decDigits,dif_pos h] at hb
    simp only [List.mem_singleton] at hb
    subst hb
    rw [Jg u h]
    omega
   rw [decDigits,dif_neg h,List.mem_append] at hb
   rcases hb with hb|hb
   ·exact ih _ (by omega) b hb
   simp only [List.mem_singleton] at hb
   subst hb
   rw [Jg _ (by omega)]
   omega
theorem Gw(u:Nat):decDigits u≠[]:=by
 intro h
 have h1:=decDigits_length u
 have h2:=nDigits_pos u
 rw [h] at h1
 simp at h1
 omega
theorem Lm(n:Int)(b:UInt8)(h:b∈itoa n):b.toNat=45∨48≤b.toNat∧b.toNat≤57:=by
 unfold itoa at h
 split at h
 ·rcases List.mem_cons.1 h with h|h
  ·subst h;exact .inl rfl
  exact .inr (Dp _ _ h)
 exact .inr (Dp _ _ h)
theorem NN(n:Int):itoa n≠[]:=by
 unfold itoa
 split
 ·simp
 exact Gw _
def PA:ByteArray:=⟨#[101,114,114,111,114,32]⟩
def Cb(s:ByteArray):Bool:=decide (6≤s.size)&&decide (s.extract 0 6=PA)
theorem LP(a b:ByteArray):(a++b).data.toList=a.data.toList++b.data.toList:=by simp
theorem I2(e:Int):Cb (IB e)=true:=by
 unfold Cb
 have hl:(IB e).data.toList=[101,114,114,111,114,32]++itoa e:=by unfold IB;rw [LP];rfl
 have hz:6≤(IB e).size:=by rw [size_eq,hl];simp
 have hx:(IB e).extract 0 6=PA:=by rw [extract_eq,hl];rfl
 simp [hz,hx]
def Nh(s:ByteArray):Prop:=s.data.toList.head? ≠some 101
theorem I3(s:ByteArray)(h:Nh s):Cb s=false:=by
 unfold Cb
 have:s.extract 0 6≠PA:=by
  intro hx
  have h2:(s.extract 0 6).data.toList=PA.data.toList:=by rw [hx]
  rw [extract_data,List.drop_zero] at h2
  unfold Nh at h
  cases hs:s.data.toList with
  | nil=>rw [hs] at h2;cases h2
  | cons x r=>
    rw [hs] at h2 h
    injection h2 with h3 _
    exact h (by rw [h3];rfl)
 simp [this]
theorem Ny:Nh nl:=by unfold Nh;decide
theorem PF:Nh OV:=by unfold Nh;decide
theorem NT(l:List Int):Nh (Bo l):=by
 unfold Bo Nh
 cases l with
 | nil=>decide
 | cons x r=>
   rw [if_neg (by simp)]
   simp only [List.map_cons]
   rw [join_cons]
   cases hx:itoa x with
   | nil=>exact absurd hx (NN x)
   | cons c t=>
     rw [show (Ba x).data.toList=c::t from hx]
     have:=Lm x c (by rw [hx];exact List.mem_cons_self ..)
     simp only [List.cons_append,List.head?_cons]
     intro h
     injection h with h
     subst h
     revert this
     decide
theorem OU(bst:List Int→Int)(c:F6)(D:Dk)(n:List Int):Nh (DO bst c D n).1.1:=by
 cases c<;>simp only [DO,En,BP,Io,C6,Ct,Dl]
 all_goals (repeat' split)
 all_goals (first|exact Ny|exact PF|exact NT _)
theorem NR(bst:List Int→Int)(D:Dk)(s:ByteArray):Nh (As bst D s).1.1:=by
 unfold As
 repeat' split
 all_goals (first|exact Ny|exact OU _ _ _ _)
theorem M8(bst:List Int→Int)(D:Dk)(s:ByteArray):Cb (F7 (As bst D s))=decide ((As bst D s).1.2≠0):=by
 unfold F7
 split
 ·rename_i h
  rw [I2,decide_eq_true h]
 rename_i h
 rw [I3 _ (NR _ _ _),decide_eq_false h]
def FX(L A:List ByteArray):List (ByteArray×ByteArray):=(L.zip A).filter fun p=>!Cb p.2
theorem IL(bst:List Int→Int):∀(L:List ByteArray)(D:Dk),CS bst D ((FX L (CS bst D L)).map (·.1))=(FX L (CS bst D L)).map (·.2)
 | [],D=>rfl
 | s::L,D=>by
   have ih:=IL bst L (As bst D s).2
   have ha:=M8 bst D s
   have hr:CS bst D (s::L)=F7 (As bst D s)::CS bst (As bst D s).2 L:=rfl
   rw [hr]
   unfold FX at ih⊢
   rw [List.zip_cons_cons,List.filter_cons]
   simp only [ha]
   by_cases he:(As bst D s).1.2≠0
   ·rw [decide_eq_true he]
    simp only [Bool.not_true,Bool.false_eq_true,if_false]
    rw [KR bst D s he] at ih⊢
    exact ih
   rw [decide_eq_false he]
   simp only [Bool.not_false,if_true,List.map_cons]
   rw [CS,ih]
theorem IM(L A:List ByteArray):(FX L A).length≤L.length:=by
 unfold FX
 refine Nat.le_trans (List.length_filter_le _ _) ?_
 rw [List.length_zip]
 omega
theorem Lp(L A:List ByteArray)(s:ByteArray)(h:s∈(FX L A).map (·.1)):s∈L:=by
 obtain ⟨p,hp,rfl⟩:=List.mem_map.1 h
 exact (List.of_mem_zip (List.mem_filter.1 hp).1).1
theorem KP(L A:List ByteArray)(k:Nat)(s a:ByteArray)(hs:L[k]? =some s)(ha:A[k]? =some a):FX (L.take (k+1)) (A.take (k+1))=FX (L.take k) (A.take k)++(if Cb a then [] else [(s,a)]):=by
 unfold FX
 rw [show ∀j,(L.take j).zip (A.take j)=(L.zip A).take j from fun j=>List.take_zipWith.symm,show ∀j,(L.take j).zip (A.take j)=(L.zip A).take j from fun j=>List.take_zipWith.symm,List.take_add_one,List.filter_append]
 congr 1
 have:(L.zip A)[k]? =some (s,a):=List.getElem?_zip_eq_some.2 ⟨hs,ha⟩
 rw [this]
 simp only [Option.toList,List.filter_cons,List.filter_nil]
 cases Cb a<;>rfl
end Go.Proofs.YtngojkompmcceaaGreatDoor
namespace Go.Proofs.YtngojkompmcceaaGreatDoor
attribute [local irreducible] Region.wanted
open Go.RowKit
set_option linter.unusedVariables false
set_option maxRecDepth 100000
set_option maxHeartbeats 8000000
section
variable{P:Program}{ty t u:TypeId}{a:Act}{x y:Operand}{s r:ByteArray}
theorem V.cutS{k:IntKind}{h:Nat}(ht:P.underlying t=some .string)(hx:a.eval x= .string s)(hy:a.eval y= .int k (h:Nat))(hh:h≤s.size):Bk P (.slice t x none (some y) none) ty a (.string (s.extract 0 h)):=fun d pos af g w=>by
 have e:=run_slice_string_h (P:=P) w t s ht k (h:Int) (by omega) (by omega)
 rw [Int.toNat_natCast] at e
 simp only [execOp,hx,Option.map_none,Option.map_some,hy,Sem.run_bind,run_sliceAt_string w t _ _ _ _ ht,e,Result.andThen_ok,Sem.run_pure]
end
end Go.Proofs.YtngojkompmcceaaGreatDoor
