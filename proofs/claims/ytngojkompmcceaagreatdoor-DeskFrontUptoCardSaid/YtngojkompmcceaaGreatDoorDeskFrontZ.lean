/- The law DeskFront: its walk, and the statement. -/
import Derived.Test.YtngojkompmcceaaGreatDoorBaseDZ2
import Derived.Test.YtngojkompmcceaaGreatDoorBaseDZ10
import Derived.Test.YtngojkompmcceaaGreatDoorBaseDZ11
import Derived.Test.YtngojkompmcceaaGreatDoorRows
import Derived.JoinedCond
import Derived.Test.YtngojkompmcceaaGreatDoorCards
import Derived.Test.YtngojkompmcceaaGreatDoorTie
import Derived.Deep.DeepHandedRow
import Derived.Lay
import Derived.SevenTiedAt
namespace Go.Proofs.YtngojkompmcceaaGreatDoor
attribute [local irreducible] Region.wanted
open Go.ChangeShapes Go.WideShapes Go.ChangeAt Go.RowKit
set_option linter.unusedVariables false
set_option maxRecDepth 100000
set_option maxHeartbeats 8000000
def Qh:List ByteArray:=[⟨#[115,105,122,101,32,45,53]⟩,⟨#[115,101,116,32,48,32,57]⟩,⟨#[115,104,111,119]⟩,⟨#[119,104,97,116]⟩]
def RJ:List ByteArray:=[⟨#[51,32,50]⟩,⟨#[111,107]⟩,⟨#[57,32,48,32,48,32,48,32,48,32,48,32,48,32,48]⟩,⟨#[101,114,114,111,114,32,52]⟩]
theorem Oo(bst:List Int→Int):Bq bst BG Qh=RJ:=by kernel_rfl
theorem Pq:Iy Qh:=⟨by decide,fun s hs=>by
 simp only [Qh,List.mem_cons,List.not_mem_nil,or_false] at hs
 rcases hs with rfl|rfl|rfl|rfl<;>decide⟩
theorem Iy.left{a b:List ByteArray}(h:Iy (a++b)):Iy a:=⟨by have:=h.1;rw [List.length_append] at this;omega,fun s hs=>h.2 s (List.mem_append_left _ hs)⟩
theorem Sl.capD{w:World}{s n m c:Nat}{a:Option Addr}{cs:List Value}(h:Sl w s (.slice a n c) m cs):n≤c:=by
 obtain ⟨_,a',c',e,h1,_⟩:=h
 cases e
 exact h1
theorem Ff{H:Type}{enc:TypeId×Value→H}{d0 d1:DataW H}{p0 p1:List MemPlace}{v0 v1:Value}{base:Nat}(W:World)
 (o0:Value.okWide Tryz.prog W .any base 22 v0) (h0:DataW.Trod enc Tryz.prog W 0 (fun _=>true) true 22 v0 d0 p0) (lt0:∀x∈p0,x.block<W.heap.size)
 (o1:Value.okWide Tryz.prog W .any base 22 v1) (h1:DataW.Trod enc Tryz.prog W 0 (fun _=>true) true 22 v1 d1 p1) (lt1:∀x∈p1,x.block<W.heap.size)
 (hbulk:Rows.uptoSmall H [d0,d1]=true) (hsh:W.ShapedOpen Tryz.prog) (hLM:laidMetH Tryz.prog Rows.deskFrontUptoRow.laid W):
 Calls Tryz.prog 3 #[v0,v1] W fun e w'=>e= .returned (.bool true)∧AP W w':=by
 obtain ⟨n1,L1,a1,c1,hl1,rfl,_,_,hv1,hb1⟩:=Ib o0 h0
 have hk1:=II hbulk (d:=d0) (by simp)
 obtain ⟨n2,L2,a2,c2,hl2,rfl,_,_,hv2,hb2⟩:=Ib o1 h1
 have hk2:=II hbulk (d:=d1) (by simp)
 have hL:CM W:=F9 hLM
 obtain ⟨bst,hbst⟩:=Jt
 have hS:=St.start W
 obtain ⟨F,hF4⟩:∃F,F=RJ.map Value.string:=⟨_,rfl⟩
 have HR4:=AC fun (w:World)(hx:AP W w)(a:Option Addr)(c:Nat)(hv:Sl w 1 (.slice a 4 c) 4 [Value.string ⟨#[115,105,122,101,32,45,53]⟩,Value.string ⟨#[115,101,116,32,48,32,57]⟩,Value.string ⟨#[115,104,111,119]⟩,Value.string ⟨#[119,104,97,116]⟩])=>(DL bst hbst w (hL.ext hx) a 4 c Qh (show Sl w 1 (.slice a 4 c) 4 (Qh.map Value.string) from hv) (by omega)).mono fun e w' hh=>(by have:=hh.2 Pq;rw [Oo,←hF4] at this;exact this:∃(a:Option Addr) (c:Nat),e= .returned (.tuple #[.slice a 4 c, .int .i64 0])∧St w w' [own 9 1 a 4 c F])
 have HR1:=AC fun (w:World)(hx:AP W w)=>DL bst hbst w (hL.ext hx) a1 n1 c1 L1 (hv1.ext hx) (by omega)
 have HR2:=AC fun (w:World)(hx:AP W w)(a:Option Addr)(c:Nat)(X:List Value)(hv:Sl w 1 (.slice a (0+n1+n2) c) (0+n1+n2) X)(hX:X=L1.map Value.string++L2.map Value.string)=>DL bst hbst w (hL.ext hx) a (0+n1+n2) c (L1++L2) (by rw [List.map_append,←hX];exact hv) (by omega)
 have HE:=AC fun (w:World)(a b:Option Addr)(c d:Nat)(h1:Sl w 1 (.slice a 4 c) 4 F)(h2:Sl w 1 (.slice b 4 d) 4 [Value.string ⟨#[51,32,50]⟩,Value.string ⟨#[111,107]⟩,Value.string ⟨#[57,32,48,32,48,32,48,32,48,32,48,32,48,32,48]⟩,Value.string ⟨#[101,114,114,111,114,32,52]⟩])=>Dj w a b 4 c d RJ (by rw [←hF4];exact h1) (show Sl w 1 (.slice b 4 d) 4 (RJ.map Value.string) from h2) (by omega)
 have hn:n1≤1048576∧n2≤1048576:=by omega
 clear o0 h0 lt0 o1 h1 lt1 hbulk hsh hLM hk1 hk2 hb1 hb2 hbst hF4
 go_enter Tryz.func3,Tryz.ntmps3
 repeat' (first
  | (refine Ar 6 ?_);refine As AA Tryz.call6 (HR4.out _ hS.1 (some ⟨g12,0,none⟩) 4 (hS.slBlk (cs:=[Value.string ⟨#[115,105,122,101,32,45,53]⟩,Value.string ⟨#[115,101,116,32,48,32,57]⟩,Value.string ⟨#[115,104,111,119]⟩,Value.string ⟨#[119,104,97,116]⟩]) (n:=4) (s:=1) AQ rfl (by decide))) ?_;rintro e w ⟨a9,c9,rfl,hS2⟩;replace hS:=hS.call1 hS2;clear hS2;refine A2 ?_;go_step|refine X0 ?_|refine X5 14 ?_|refine X5 15 ?_|refine RN 12 ?_;clear hS;intro g12 w hS|refine AF ?_;go_step|fail)
 repeat' (first
  | (refine Ar 7 ?_);refine As AA Tryz.call7 (HE.out _ a9 (some ⟨g20,0,none⟩) c9 4 (hS.sl (a:=a9) (s:=1) AQ) (hS.slBlk (cs:=[Value.string ⟨#[51,32,50]⟩,Value.string ⟨#[111,107]⟩,Value.string ⟨#[57,32,48,32,48,32,48,32,48,32,48,32,48,32,48]⟩,Value.string ⟨#[101,114,114,111,114,32,52]⟩]) (n:=4) (s:=1) AQ rfl (by decide))) (C9 hS ?_);clear hS;intro w hS;go_step|refine X1 ?_|refine Jo ?_|(refine AH 17 ?_);(refine BX _ (V.neq rfl rfl) AA (fun hB=>?_) (fun hB=>?_)<;>(try exact AU)<;>go_step)|(refine AH 22 ?_);(refine AR AA (V.not rfl) ?_;go_step)|refine RN 20 ?_;clear hS;intro g20 w hS|refine AF ?_;go_step|fail)
 by_cases hA:Iy (L1++L2)
 ·have hA1:=hA.left
  have h60:n1+n2≤60:=by have:=hA.1;rw [List.length_append] at this;omega
  have hAr:∃Z,Bq bst BG (L1++L2)=Bq bst BG L1++Z:=⟨_,GM bst L1 L2 BG⟩
  obtain ⟨Z,hZ⟩:=hAr
  have hzl:=GO bst L1 BG
  obtain ⟨A1,hA1e⟩:∃A,Bq bst BG L1=A:=⟨_,rfl⟩
  obtain ⟨S1,hS1⟩:∃S,A1.map Value.string=S:=⟨_,rfl⟩
  obtain ⟨SZ,hSZ⟩:∃S,Z.map Value.string=S:=⟨_,rfl⟩
  rw [hA1e] at hZ hzl
  have H1:=AC fun (w:World)(hx:AP W w)=>(HR1.out w hx).mono fun e w' hh=>(by have:=hh.2 hA1;rw [hA1e,hS1] at this;exact this:∃(a:Option Addr) (c:Nat),e= .returned (.tuple #[.slice a n1 c, .int .i64 0])∧St w w' [own 9 1 a n1 c S1])
  have H2:=AC fun (w:World)(hx:AP W w)(a:Option Addr)(c:Nat)(X:List Value)(hv:Sl w 1 (.slice a (0+n1+n2) c) (0+n1+n2) X)(hX:X=L1.map Value.string++L2.map Value.string)=>(HR2.out w hx a c X hv hX).mono fun e w' hh=>(by have:=hh.2 hA;rw [hZ,List.map_append,hS1,hSZ,Nat.zero_add] at this;exact this:∃(a:Option Addr) (c:Nat),e= .returned (.tuple #[.slice a (n1+n2) c, .int .i64 0])∧St w w' [own 9 1 a (n1+n2) c (S1++SZ)])
  have HQ:=AC fun (w:World)(a b:Option Addr)(c d:Nat)(h1:Sl w 1 (.slice a n1 c) n1 S1)(h2:Sl w 1 (.slice b (n1+n2) d) (n1+n2) (S1++SZ))=>Dj w a (cutAt b d 0 1) n1 c (d-0) A1 (by rw [hS1];exact h1) (by
   have hc:=Sl.cutAt h2 0 n1 (by omega) (by omega)
   have hsl:S1.length=n1:=by rw [←hS1,List.length_map,hzl,hl1]
   rw [Nat.zero_mul,List.drop_zero,Nat.sub_zero,Nat.mul_one,List.take_left' hsl,←hS1] at hc
   exact hc) (by omega)
  clear hA hA1 hZ hzl hA1e hS1 hSZ hl1 hl2
  repeat' (first
   | (refine Ar 6 ?_);refine As AA Tryz.call6 (H1.out _ hS.1) ?_;rintro e w ⟨a8,c8,rfl,hS2⟩;replace hS:=hS.call1 hS2;clear hS2;refine A2 ?_;go_step|refine X0 ?_|refine X5 27 ?_|refine X5 28 ?_|refine AF ?_;go_step|fail)
  all_goals (try exact AU)
  repeat' (first
   | (refine AH 34 ?_);refine Ac (f:=6) Tryz.call6 AA ?_;refine ⟨_,(H2.out _ hS.1 ad33 c33 _ (hS.sl (a:=ad33) (s:=1) AQ) (by rfl)),?_⟩;rintro e w ⟨a7,c7,rfl,hS2⟩;replace hS:=hS.call1 hS2;clear hS2;have hcap:n1+n2≤c7:=Sl.capD (hS.sl (a:=a7) (n:=n1+n2) (s:=1) AQ);refine A2 ?_;go_step|refine X0 ?_|refine X5 35 ?_|refine X5 36 ?_|(refine AH 31 ?_);(refine At ?_;apply AY (o:=⟨some 31,_,_,_,_,_⟩) (hS.nil 9 1) _ _ 22 rfl 9 1 16 EG _ _ _ _ rfl;(case hp=>exact AQ);(case hx=>exact rfl);(case hm=>(first|exact hS.slBlk AQ (by rfl) (by decide)|exact hS.sl AQ|with_reducible assumption|exact Sl.ext (by with_reducible assumption) hS.1|exact Sl.nil _ _|exact Sl.ext (by assumption) hS.1|assumption));(case h1=>(first|exact BJ rfl|(intro u hu;obtain ⟨x,_,rfl⟩:=List.mem_map.1 hu;rfl)));(case h63=>unfold maxLen;omega);(case hb=>omega);clear hS;intro ad31 c31 w hS;(first|simp only [B4] at hS|simp only [B5] at hS|simp only [B6] at hS|simp only [B7] at hS|simp only [B8] at hS|skip);refine AB ?_;go_step)|(refine AH 33 ?_);(refine At ?_;apply AY (o:=⟨some 33,_,_,_,_,_⟩) hS _ _ 22 rfl 9 1 16 EG _ _ _ _ rfl;(case hp=>exact AQ);(case hx=>exact rfl);(case hm=>(first|exact hS.slBlk AQ (by rfl) (by decide)|exact hS.sl AQ|with_reducible assumption|exact Sl.ext (by with_reducible assumption) hS.1|exact Sl.nil _ _|exact Sl.ext (by assumption) hS.1|assumption));(case h1=>(first|exact BJ rfl|(intro u hu;obtain ⟨x,_,rfl⟩:=List.mem_map.1 hu;rfl)));(case h63=>unfold maxLen;omega);(case hb=>omega);clear hS;intro ad33 c33 w hS;(first|simp only [B4] at hS|simp only [B5] at hS|simp only [B6] at hS|simp only [B7] at hS|simp only [B8] at hS|skip);refine AB ?_;go_step)|refine AF ?_;go_step|fail)
  all_goals (try exact AU)
  repeat' (first
   | refine X1 ?_|refine OI 38 ?_|refine AF ?_;go_step|fail)
  all_goals (try exact AU)
  repeat' (first
   | (refine Ar 7 ?_);refine As AA Tryz.call7 (HQ.out _ a8 a7 c8 c7 (hS.sl (a:=a8) (s:=1) AQ) (hS.sl (a:=a7) (s:=1) AQ)) (C9 hS ?_);clear hS;intro w hS;go_step|refine X0 ?_|refine X7 ?_|(refine AH 43 ?_);(refine BX _ (V.eql rfl rfl) AA (fun hB=>?_) (fun hB=>?_)<;>(try exact AU)<;>go_step)|(refine AH 49 ?_);(refine BX _ (V.eql rfl rfl) AA (fun hB=>?_) (fun hB=>?_)<;>(try exact AU)<;>go_step)|(refine AH 59 ?_);(refine BX _ (V.eql rfl rfl) AA (fun hB=>?_) (fun hB=>?_)<;>(try exact AU)<;>go_step)|refine Mn 46 ?_|refine Mn 48 ?_|refine Mn 53 ?_|refine Mn 55 ?_|refine Mn 57 ?_|refine QR 58 ?_|refine Mn 65 ?_|(refine AH 66 ?_);(refine AR AA (V.slice Tryz.underlying22 Gy rfl (by (first|exact Lo.none|exact Lo.some rfl BY)) (by (first|exact Up.none|exact Up.some rfl BY)) (by omega) (by omega)) ?_;go_step)|refine AF ?_;go_step|fail)
  all_goals (try exact AU)
  go_ret
  exact ⟨rfl,hS.1⟩
 have H2:=AC fun (w:World)(hx:AP W w)(a:Option Addr)(c:Nat)(X:List Value)(hv:Sl w 1 (.slice a (0+n1+n2) c) (0+n1+n2) X)(hX:X=L1.map Value.string++L2.map Value.string)=>(HR2.out w hx a c X hv hX).mono fun e w' hh=>hh.1 hA
 by_cases hB:Iy L1
 ·have H1:=AC fun (w:World)(hx:AP W w)=>(HR1.out w hx).mono fun e w' hh=>hh.2 hB
  obtain ⟨S1,hS1⟩:∃S,(Bq bst BG L1).map Value.string=S:=⟨_,rfl⟩
  rw [hS1] at H1
  clear hA hB hS1 hl1 hl2
  repeat' (first
   | (refine Ar 6 ?_);refine As AA Tryz.call6 (H1.out _ hS.1) ?_;rintro e w ⟨a8,c8,rfl,hS2⟩;replace hS:=hS.call1 hS2;clear hS2;refine A2 ?_;go_step|refine X0 ?_|refine X5 27 ?_|refine X5 28 ?_|refine AF ?_;go_step|fail)
  all_goals (try exact AU)
  repeat' (first
   | (refine AH 34 ?_);refine Ac (f:=6) Tryz.call6 AA ?_;refine ⟨_,(H2.out _ hS.1 ad33 c33 _ (hS.sl (a:=ad33) (s:=1) AQ) (by rfl)),?_⟩;rintro e w ⟨rfl,hE⟩;replace hS:=hS.ext hE;clear hE;refine A2 ?_;go_step|refine X0 ?_|refine X5 35 ?_|refine X5 36 ?_|(refine AH 31 ?_);(refine At ?_;apply AY (o:=⟨some 31,_,_,_,_,_⟩) (hS.nil 9 1) _ _ 22 rfl 9 1 16 EG _ _ _ _ rfl;(case hp=>exact AQ);(case hx=>exact rfl);(case hm=>(first|exact hS.slBlk AQ (by rfl) (by decide)|exact hS.sl AQ|with_reducible assumption|exact Sl.ext (by with_reducible assumption) hS.1|exact Sl.nil _ _|exact Sl.ext (by assumption) hS.1|assumption));(case h1=>(first|exact BJ rfl|(intro u hu;obtain ⟨x,_,rfl⟩:=List.mem_map.1 hu;rfl)));(case h63=>unfold maxLen;omega);(case hb=>omega);clear hS;intro ad31 c31 w hS;(first|simp only [B4] at hS|simp only [B5] at hS|simp only [B6] at hS|simp only [B7] at hS|simp only [B8] at hS|skip);refine AB ?_;go_step)|(refine AH 33 ?_);(refine At ?_;apply AY (o:=⟨some 33,_,_,_,_,_⟩) hS _ _ 22 rfl 9 1 16 EG _ _ _ _ rfl;(case hp=>exact AQ);(case hx=>exact rfl);(case hm=>(first|exact hS.slBlk AQ (by rfl) (by decide)|exact hS.sl AQ|with_reducible assumption|exact Sl.ext (by with_reducible assumption) hS.1|exact Sl.nil _ _|exact Sl.ext (by assumption) hS.1|assumption));(case h1=>(first|exact BJ rfl|(intro u hu;obtain ⟨x,_,rfl⟩:=List.mem_map.1 hu;rfl)));(case h63=>unfold maxLen;omega);(case hb=>omega);clear hS;intro ad33 c33 w hS;(first|simp only [B4] at hS|simp only [B5] at hS|simp only [B6] at hS|simp only [B7] at hS|simp only [B8] at hS|skip);refine AB ?_;go_step)|refine AF ?_;go_step|fail)
  all_goals (try exact AU)
  repeat' (first
   | refine X0 ?_|refine OI 38 ?_|refine Mn 40 ?_|refine Ki 41 ?_|refine AF ?_;go_step|fail)
  all_goals (try exact AU)
  go_ret
  exact ⟨rfl,hS.1⟩
 have H1:=AC fun (w:World)(hx:AP W w)=>(HR1.out w hx).mono fun e w' hh=>hh.1 hB
 clear hA hB hl1 hl2
 repeat' (first
  | (refine Ar 6 ?_);refine As AA Tryz.call6 (H1.out _ hS.1) (C9 hS ?_);clear hS;intro w hS;go_step|refine X0 ?_|refine X5 27 ?_|refine X5 28 ?_|refine AF ?_;go_step|fail)
 all_goals (try exact AU)
 repeat' (first
  | (refine AH 34 ?_);refine Ac (f:=6) Tryz.call6 AA ?_;refine ⟨_,(H2.out _ hS.1 ad33 c33 _ (hS.sl (a:=ad33) (s:=1) AQ) (by rfl)),?_⟩;rintro e w ⟨rfl,hE⟩;replace hS:=hS.ext hE;clear hE;refine A2 ?_;go_step|refine X0 ?_|refine X5 35 ?_|refine X5 36 ?_|(refine AH 31 ?_);(refine At ?_;apply AY (o:=⟨some 31,_,_,_,_,_⟩) (hS.nil 9 1) _ _ 22 rfl 9 1 16 EG _ _ _ _ rfl;(case hp=>exact AQ);(case hx=>exact rfl);(case hm=>(first|exact hS.slBlk AQ (by rfl) (by decide)|exact hS.sl AQ|with_reducible assumption|exact Sl.ext (by with_reducible assumption) hS.1|exact Sl.nil _ _|exact Sl.ext (by assumption) hS.1|assumption));(case h1=>(first|exact BJ rfl|(intro u hu;obtain ⟨x,_,rfl⟩:=List.mem_map.1 hu;rfl)));(case h63=>unfold maxLen;omega);(case hb=>omega);clear hS;intro ad31 c31 w hS;(first|simp only [B4] at hS|simp only [B5] at hS|simp only [B6] at hS|simp only [B7] at hS|simp only [B8] at hS|skip);refine AB ?_;go_step)|(refine AH 33 ?_);(refine At ?_;apply AY (o:=⟨some 33,_,_,_,_,_⟩) hS _ _ 22 rfl 9 1 16 EG _ _ _ _ rfl;(case hp=>exact AQ);(case hx=>exact rfl);(case hm=>(first|exact hS.slBlk AQ (by rfl) (by decide)|exact hS.sl AQ|with_reducible assumption|exact Sl.ext (by with_reducible assumption) hS.1|exact Sl.nil _ _|exact Sl.ext (by assumption) hS.1|assumption));(case h1=>(first|exact BJ rfl|(intro u hu;obtain ⟨x,_,rfl⟩:=List.mem_map.1 hu;rfl)));(case h63=>unfold maxLen;omega);(case hb=>omega);clear hS;intro ad33 c33 w hS;(first|simp only [B4] at hS|simp only [B5] at hS|simp only [B6] at hS|simp only [B7] at hS|simp only [B8] at hS|skip);refine AB ?_;go_step)|refine AF ?_;go_step|fail)
 all_goals (try exact AU)
 repeat' (first
  | refine X0 ?_|refine OI 38 ?_|refine Mn 40 ?_|refine Ki 41 ?_|refine AF ?_;go_step|fail)
 all_goals (try exact AU)
 go_ret
 exact ⟨rfl,hS.1⟩
def BP:Array Value:=#[.slice none 0 0, .slice none 0 0]
theorem Gn:ownKnob Tryz.prog.godebug=none:=by kernel_rfl
theorem Ck:laidOutB Tryz.prog=true:=by kernel_rfl
theorem Gm(os:Os)(args:Array Value):laidMetH Tryz.prog Rows.deskFrontUptoRow.laid ((World.laidAll Tryz.prog os Rows.deskFrontUptoRow.laid).forCall (fun _ _=>0) ⟨#[],args,[]⟩).memory:=by
 rw [MakeChecks.laidMetH_plain _ _ _ AA];exact laidMet_laidAll _ AA AA
theorem FS(os:Os){H:Type}(enc:TypeId×Value→H):∃places,DataW.whole enc Tryz.prog ((World.laidAll Tryz.prog os Rows.deskFrontUptoRow.laid).forCall (fun _ _=>0) ⟨#[],BP,[]⟩).memory Tryz.f3.params.toList Rows.deskFrontSpec.vars false (BP:Array Value).toList 8=some ([.nil, .nil],[],places):=
 ⟨[],by kernel_rfl⟩
theorem Ex(os:Os)(started:os.Started)(H:Type)(enc:TypeId×Value→H)(F:Stop.Interp):
 ReturnsInHanded {} Tryz.checked os 3 .any ((Rows.OpenSpec.upto Rows.deskFrontSpec).preRow enc Tryz.prog Tryz.f3 Rows.deskFrontUptoRow.domain false Rows.deskFrontUptoRow.laid) (((Rows.OpenSpec.upto Rows.deskFrontSpec).at F).post enc Tryz.prog Tryz.f3 false true false false):=by
 obtain ⟨places,hx⟩:=FS os enc
 have hok:Input.okWideB Tryz.prog ((World.laidAll Tryz.prog os Rows.deskFrontUptoRow.laid).forCall (fun _ _=>0) ⟨#[],BP,[]⟩) 3 ⟨#[],BP,[]⟩=true:=by kernel_rfl
 refine returnsInHanded_of_row (C:=Tryz.checked) (s:=Rows.OpenSpec.upto Rows.deskFrontSpec) Gn started AA Tryz.func3
  ⟨(World.laidAll Tryz.prog os Rows.deskFrontUptoRow.laid),fun _ _=>0,⟨#[],BP,[]⟩,World.laidAll_os _ _ _,World.shaped_of_ZipB AA AA,(Input.okWide_of_okWideB (base:=0) hok).1,(Input.okWide_of_okWideB hok).2,
   OpenSpec.preRow_of_cond 8 hx AA (fun k hk=>by cases hk;kernel_rfl) AA (Gm os _),by
   simp only [Assume.holds]
   exact ⟨by simp,by simp,by simp,by simp,by simp⟩⟩ ?_
 intro W base args ds gs before hval0 hW _ hk _ hL hsh _
 have hval:∀(j:Nat) t v,Tryz.f3.params[j]? =some t→args[j]? =some v→Value.okWide Tryz.prog W .any base t v:=hval0
 have hW':=hW
 obtain ⟨p,q,hA0,hV,rfl,hfz,hnd⟩:=hW
 have hA:DataW.TrodAll enc Tryz.prog W 0 (fun _=>true) true Tryz.f3.params.toList args.toList ds p:=hA0
 rw [Tryz.params3] at hA hval
 obtain ⟨v0,vs0,d0,ds0,p0,q0,hargs,rfl,rfl,h0,r0⟩:=trodAll_cons hA
 obtain ⟨v1,vs1,d1,ds1,p1,q1,rfl,rfl,rfl,h1,r1⟩:=trodAll_cons r0
 obtain ⟨rfl,rfl,rfl⟩:=trodAll_nil r1
 obtain rfl:args=#[v0,v1]:=by cases args;simp_all
 obtain ⟨rfl,rfl⟩:=trodVars_none hV
 have lt0:∀x∈p0,x.block<W.heap.size:=by obtain ⟨m,hm⟩:=h0;exact DataW.trod_lt m _ _ _ hm
 have lt1:∀x∈p1,x.block<W.heap.size:=by obtain ⟨m,hm⟩:=h1;exact DataW.trod_lt m _ _ _ hm
 refine (Ff W (hval 0 22 v0 rfl rfl) h0 lt0 (hval 1 22 v1 rfl rfl) h1 lt1 (by have:=hk _ rfl;simpa only [List.append_nil,List.cons_append,List.nil_append] using this) hsh hL).mono fun e W' ⟨he,bel⟩=>?_
 subst he
 exact ⟨_,rfl,_,_,_,[],_,[],hW',trodAll_mk1 (shut_bool Tryz.underlying4 _),(trodAll_cons_mk (Below.trod Ck AA (of_decide_eq_true AA) h0 bel lt0) (trodAll_cons_mk (Below.trod Ck AA (of_decide_eq_true AA) h1 bel lt1) trodAll_mk0)),rfl,bel.frame _,fun h=>by cases h⟩
theorem Fe:Rows.DeskFrontUptoSaid:=
 OpenClaim.holds_of_cond 3 Tryz.f3 rfl rfl rfl rfl rfl rfl rfl ⟨rfl,rfl,rfl,rfl,rfl⟩ rfl rfl rfl rfl rfl AA Tryz.func3 AA
  (of_decide_eq_true AA) (by unfold Func.isWrapper;rw [if_neg (by decide+kernel)];exact ⟨rfl,rfl⟩)
  (fun os started H enc _ F=>by rw [OpenClaim.pre_eq_preRow];exact Ex os started H enc F)
theorem EU(f:FuncId)(fn:Func)(hf:Tryz.pinned.checked.prog.funcNamed "mezzotint/mezzotintkeep.DeskFront" =some f)(hfn:Tryz.pinned.checked.prog.funcs[f]? =some fn):
 true=Tryz.pinned.checked.prog.looks []∧∀(j:Nat) t,fn.params[j]? =some t→Tryz.pinned.checked.prog.wantsStandIn t=false:=by
 obtain rfl:f=3:=Option.some.inj ((show Tryz.prog.funcNamed "mezzotint/mezzotintkeep.DeskFront" =some 3 by kernel_rfl).symm.trans hf) |>.symm
 obtain rfl:fn=Tryz.f3:=(Option.some.inj (Tryz.func3.symm.trans hfn)).symm
 refine ⟨by kernel_rfl,fun j t ht=>?_⟩
 rw [Tryz.params3] at ht
 have hm:t∈([22,22]:List Nat):=by simpa using Array.mem_of_getElem? ht
 have hall:(([22,22]:List Nat).all fun u=>!Tryz.prog.wantsStandIn u)=true:=by kernel_rfl
 exact (show Tryz.prog.wantsStandIn t=false by simpa using List.all_eq_true.1 hall t hm)
theorem DeskFront_proved:Rows.DeskFrontUptoCardSaid:=
 Claim7.holds_tied_plain_at .later [] _ _ _ _ Fe (fun _ h=>by cases h) AA (fun _ h=>by cases h) deskFrontUpto_row_tie rfl ⟨rfl,rfl⟩ AA rfl EU AA
end Go.Proofs.YtngojkompmcceaaGreatDoor
