/- The law DeskErrors: its walk, and the statement. -/
import Derived.Test.YtngojkompmcceaaGreatDoorBaseEZ2
import Derived.Test.YtngojkompmcceaaGreatDoorBaseEZ10
import Derived.Test.YtngojkompmcceaaGreatDoorBaseEZ11
import Derived.Test.YtngojkompmcceaaGreatDoorRows
import Derived.Test.YtngojkompmcceaaGreatDoorCards
import Derived.Test.YtngojkompmcceaaGreatDoorTie
import Derived.Deep.DeepHandedRow
import Derived.Lay
import Derived.SevenTiedAt
namespace Go.Proofs.YtngojkompmcceaaGreatDoor
attribute [local irreducible] Region.wanted
open Go.ChangeShapes Go.WideShapes Go.ChangeAt Go.RowKit
set_option linter.unusedVariables false
set_option maxRecDepth 100000
set_option maxHeartbeats 8000000
def PD:List ByteArray:=[⟨#[116,111,107,101,110,115]⟩]
def Po:List ByteArray:=[⟨#[48,32,48]⟩]
theorem NG(bst:List Int→Int):CS bst CL PD=Po:=by kernel_rfl
theorem OM:Me PD:=⟨by decide,fun s hs=>by
 simp only [PD,List.mem_cons,List.not_mem_nil,or_false] at hs
 subst hs;decide⟩
theorem NP{L A:List ByteArray}(h:Me L):Me ((FX L A).map (·.1)):=⟨by rw [List.length_map];have:=IM L A;have:=h.1;omega,fun s hs=>h.2 s (Lp L A s hs)⟩
theorem V.neqN{P:Program}{ty t u:TypeId}{a:Act}{x y:Operand}{s r:ByteArray}(hx:a.eval x= .string s)(hy:a.eval y= .string r)(h:s≠r):Bk P (.binOp .neq t x y u) ty a (.bool true):=by have:=V.neqS (P:=P) (ty:=ty) (t:=t) (u:=u) hx hy;rwa [decide_eq_true h] at this
theorem E5{H:Type}{enc:TypeId×Value→H}{d0:DataW H}{p0:List MemPlace}{v0:Value}{base:Nat}(W:World)
 (o0:Value.okWide Tryz.prog W .any base 22 v0) (h0:DataW.Trod enc Tryz.prog W 0 (fun _=>true) true 22 v0 d0 p0) (lt0:∀x∈p0,x.block<W.heap.size)
 (hsh:W.ShapedOpen Tryz.prog) (hLM:laidMetH Tryz.prog Rows.deskErrorsRow.laid W):
 Calls Tryz.prog 4 #[v0] W fun e w'=>e= .returned (.bool true)∧AP W w':=by
 obtain ⟨n1,L1,a1,c1,hl1,rfl,hnc,hcm,hv1,hb1⟩:=NZ o0 h0
 have hL:CZ W:=Lt hLM
 obtain ⟨bst,hbst⟩:=OI
 have hS:=St.start W
 obtain ⟨F,hF1⟩:∃F,F=Po.map Value.string:=⟨_,rfl⟩
 have HR4:=AD fun (w:World)(hx:AP W w)(a:Option Addr)(c:Nat)(hv:Sl w 1 (.slice a 1 c) 1 [Value.string ⟨#[116,111,107,101,110,115]⟩])=>(Hf bst hbst w (hL.ext hx) a 1 c PD (show Sl w 1 (.slice a 1 c) 1 (PD.map Value.string) from hv) (by omega)).mono fun e w' hh=>(by have:=hh.2 OM;rw [NG,←hF1] at this;exact this:∃(a:Option Addr) (c:Nat),e= .returned (.tuple #[.slice a 1 c, .int .i64 0])∧St w w' [own 9 1 a 1 c F])
 have HE:=AD fun (w:World)(a b:Option Addr)(c d:Nat)(h1:Sl w 1 (.slice a 1 c) 1 F)(h2:Sl w 1 (.slice b 1 d) 1 [Value.string ⟨#[48,32,48]⟩])=>GR w a b 1 c d Po (by rw [←hF1];exact h1) (show Sl w 1 (.slice b 1 d) 1 (Po.map Value.string) from h2) (by omega)
 have HR1:=AD fun (w:World)(hx:AP W w)=>Hf bst hbst w (hL.ext hx) a1 n1 c1 L1 (hv1.ext hx) (by omega)
 have HR2:=AD fun (w:World)(hx:AP W w)(a:Option Addr)(n c:Nat)(L:List ByteArray)(hv:Sl w 1 (.slice a n c) n (L.map Value.string))(hn:n≤60)(hk:Me L)=>(Hf bst hbst w (hL.ext hx) a n c L hv (by omega)).mono fun e w' hh=>hh.2 hk
 have hn:n1≤9223372036854775807:=by omega
 clear o0 h0 lt0 hsh hLM hnc hcm hb1 hbst hF1
 go_enter Tryz.func4,Tryz.ntmps4
 repeat' (first
  | (refine Av 6 ?_);refine Aw AA Tryz.call6 (HR4.out _ hS.1 (some ⟨g14,0,none⟩) 1 (hS.slBlk (n:=1) (s:=1) AS rfl (by decide))) ?_;rintro e w ⟨a9,c9,rfl,hS2⟩;replace hS:=hS.call1 hS2;clear hS2;refine A9 ?_;go_step|refine X0 ?_|refine Jd 16 ?_|refine Jd 17 ?_|refine My 14 ?_;clear hS;intro g14 w hS|refine AF ?_;go_step|fail)
 repeat' (first
  | (refine Av 7 ?_);refine Aw AA Tryz.call7 (HE.out _ a9 (some ⟨g22,0,none⟩) c9 1 (hS.sl (a:=a9) (s:=1) AS) (hS.slBlk (n:=1) (s:=1) AS rfl (by decide))) (Dj hS ?_);clear hS;intro w hS;go_step|refine X1 ?_|refine Jc ?_|(refine AM 19 ?_);(refine Bz _ (V.neq rfl rfl) AA (fun hB=>?_) (fun hB=>?_)<;>(try exact Ak)<;>go_step)|(refine AM 24 ?_);(refine AY AA (V.not rfl) ?_;go_step)|refine My 22 ?_;clear hS;intro g22 w hS|refine AF ?_;go_step|fail)
 by_cases hA:Me L1
 ·have hzl:=IZ bst L1 CL
  have hkl:=IL bst L1 CL
  obtain ⟨A1,hA1e⟩:∃A,CS bst CL L1=A:=⟨_,rfl⟩
  rw [hA1e] at hkl hzl
  rw [hl1] at hzl
  have h60:n1≤60:=by have:=hA.1;omega
  have H1:=AD fun (w:World)(hx:AP W w)=>(HR1.out w hx).mono fun e w' hh=>(by have:=hh.2 hA;rw [hA1e] at this;exact this:∃(a:Option Addr) (c:Nat),e= .returned (.tuple #[.slice a n1 c, .int .i64 0])∧St w w' [own 9 1 a n1 c (A1.map Value.string)])
  clear hA1e
  have HZL:=AD hzl
  have HLL:=AD hl1
  have HKL:=AD fun _:Unit=>hkl
  have HOK:=AD hA
  clear hzl hl1 hkl hA
  repeat' (first
   | (refine Av 6 ?_);refine Aw AA Tryz.call6 (H1.out _ hS.1) ?_;rintro e w ⟨a8,c8,rfl,hS2⟩;replace hS:=hS.call1 hS2;clear hS2;refine A9 ?_;go_step|refine X0 ?_|refine Jd 29 ?_|refine Jd 30 ?_|refine AF ?_;go_step|fail)
  all_goals (try exact Ak)
  repeat' (first
   | refine X0 ?_|refine OG 32 ?_|refine AF ?_;go_step|fail)
  all_goals (try exact Ak)
  repeat' (first
   | refine X1 ?_|(refine AM 37 ?_);(refine AY AA (V.len Tryz.underlying22 rfl) ?_;go_step)|refine AF ?_;go_step|fail)
  all_goals (try exact Ak)
  have hv8:=hS.sl (a:=a8) (n:=n1) (s:=1) AS
  have hE9:=hS.1
  have hv0:=hv1.ext hE9
  clear hS hv1
  obtain ⟨W1,hW1⟩:∃z,z=w:=⟨w,rfl⟩
  subst hW1
  have hS:=((St.start W1).nil 9 1).nil 9 1
  go_loopg [7,8,38] n1 (fun gk gv wv kv w=>∃(k m:Nat) (ag aw:Option Addr) (cg cw:Nat) (K:List (ByteArray×ByteArray)),gk+k=n1∧gv= .slice ag m cg∧wv= .slice aw m cw∧kv= .int .i64 k∧K=FX (L1.take k) (A1.take k)∧K.length=m∧St W1 w [own 9 1 ag m cg ((K.map (·.1)).map Value.string),own 9 1 aw m cw ((K.map (·.2)).map Value.string)])
  case atStart=>exact ⟨0,0,none,none,0,0,[],by omega,rfl,rfl,rfl,rfl,rfl,(show St W1 _ [own 9 1 none 0 0 [],own 9 1 none 0 0 []] from hS.sub Ae)⟩
  case round=>
   clear hS
   obtain ⟨k,m,ag,aw,cg,cw,K,hk,rfl,rfl,rfl,hK,hm,hS⟩:=hrel
   have hmk:m≤k:=by
    have:=IM (L1.take k) (A1.take k)
    rw [←hK,hm,List.length_take] at this
    omega
   by_cases hlt:k<n1
   ·obtain ⟨s,hs⟩:∃s,L1[k]? =some s:=⟨_,List.getElem?_eq_getElem (by rw [HLL.out];exact hlt)⟩
    obtain ⟨a,ha⟩:∃a,A1[k]? =some a:=⟨_,List.getElem?_eq_getElem (by rw [HZL.out];exact hlt)⟩
    have hks:=KP L1 A1 k s a hs ha
    rw [←hK] at hks
    obtain ⟨ba,oa,rfl,hca⟩:=Be hv8 (by omega)
    obtain ⟨bb,ob,rfl,hcb⟩:=Be hv0 (by omega)
    replace hca:=hca k (.string a) (by rw [List.getElem?_map,ha];rfl)
    replace hcb:=hcb k (.string s) (by rw [List.getElem?_map,hs];rfl)
    have HM:=AD hm
    have HKS:=AD fun _:Unit=>hks
    clear hs ha hK hm hks
    by_cases h6:a.size<6
    ·have he:Cb a=false:=by unfold Cb;rw [decide_eq_false (by omega)];rfl
     rw [he] at HKS
     clear he
     repeat' (first
      | refine OE 44 ?_|go_big_skip|refine X0 ?_|refine X6 ?_|refine X4 45 ?_ ?_<;>intro hB<;>(try exact Ak)<;>go_step|refine X3 ?_|refine J3 41 ?_|refine J3 54 ?_|refine X5 ?_|refine Nu ?_|refine My 56 ?_;clear hS;intro g56 w hS|(refine AM 57 ?_);(refine Aq ?_;apply Am (o:=⟨some 57,_,_,_,_,_⟩) hS _ _ 22 rfl 9 1 16 IA _ _ _ _ rfl;(case hp=>exact AS);(case hx=>exact rfl);(case hm=>(first|exact hS.slBlk AS (by rfl) (by decide)|exact hS.sl AS|with_reducible assumption|exact Sl.ext (by with_reducible assumption) hS.1|exact Sl.nil _ _|exact Sl.ext (by assumption) hS.1|assumption));(case h1=>(first|exact B6 rfl|(intro u hu;obtain ⟨x,_,rfl⟩:=List.mem_map.1 hu;rfl)));(case h63=>unfold maxLen;omega);(case hb=>omega);clear hS;intro ad57 c57 w hS;(first|simp only [DC] at hS|simp only [DD] at hS|simp only [DE] at hS|simp only [DF] at hS|simp only [DG] at hS|skip);refine AB ?_;go_step)|refine My 60 ?_;clear hS;intro g60 w hS|(refine AM 61 ?_);(refine Aq ?_;apply Am (o:=⟨some 61,_,_,_,_,_⟩) hS _ _ 22 rfl 9 1 16 IA _ _ _ _ rfl;(case hp=>exact AS);(case hx=>exact rfl);(case hm=>(first|exact hS.slBlk AS (by rfl) (by decide)|exact hS.sl AS|with_reducible assumption|exact Sl.ext (by with_reducible assumption) hS.1|exact Sl.nil _ _|exact Sl.ext (by assumption) hS.1|assumption));(case h1=>(first|exact B6 rfl|(intro u hu;obtain ⟨x,_,rfl⟩:=List.mem_map.1 hu;rfl)));(case h63=>unfold maxLen;omega);(case hb=>omega);clear hS;intro ad61 c61 w hS;(first|simp only [DC] at hS|simp only [DD] at hS|simp only [DE] at hS|simp only [DF] at hS|simp only [DG] at hS|skip);refine AB ?_;go_step)|refine AF ?_;go_step|fail)
     all_goals (try exact Ak)
     go_roundg (gk-1)
     case measure=>omega
     case rel=>exact ⟨k+1,m+1,_,_,_,_,K++[(s,a)],by omega,rfl,rfl,by go_num,(by rw [HKS.out ()];rfl),(by rw [List.length_append,HM.out];rfl),(by rw [List.map_append,List.map_append,List.map_append,List.map_append];simp only [List.map_cons,List.map_nil];exact hS.sub Ae)⟩
    by_cases hx:a.extract 0 6=PA
    ·have he:Cb a=true:=by unfold Cb;rw [decide_eq_true (by omega),decide_eq_true hx];rfl
     rw [he] at HKS
     clear he
     repeat' (first
      | refine OE 44 ?_|(refine AM 48 ?_);refine AY AA (V.cutS (h:=6) (k:= .i64) Tryz.underlying9 rfl rfl (by omega)) ?_;go_step|(refine AM 49 ?_);refine AY AA (V.neqE rfl rfl hx) ?_;go_step|refine X0 ?_|refine Jc ?_|refine X4 45 ?_ ?_<;>intro hB<;>(try exact Ak)<;>go_step|refine X3 ?_|refine J3 41 ?_|refine X5 ?_|refine Nu ?_|refine AF ?_;go_step|fail)
     all_goals (try exact Ak)
     go_roundg (gk-1)
     case measure=>omega
     case rel=>exact ⟨k+1,m,_,_,_,_,K,by omega,rfl,rfl,by go_num,(by rw [HKS.out ()];exact (List.append_nil K).symm),HM.out,hS.sub Ae⟩
    have he:Cb a=false:=by unfold Cb;rw [decide_eq_false hx,Bool.and_false]
    rw [he] at HKS
    clear he
    repeat' (first
     | refine OE 44 ?_|(refine AM 48 ?_);refine AY AA (V.cutS (h:=6) (k:= .i64) Tryz.underlying9 rfl rfl (by omega)) ?_;go_step|(refine AM 49 ?_);refine AY AA (V.neqN rfl rfl hx) ?_;go_step|refine X0 ?_|refine Jc ?_|refine X4 45 ?_ ?_<;>intro hB<;>(try exact Ak)<;>go_step|refine X3 ?_|refine J3 41 ?_|refine J3 54 ?_|refine X5 ?_|refine Nu ?_|refine My 56 ?_;clear hS;intro g56 w hS|(refine AM 57 ?_);(refine Aq ?_;apply Am (o:=⟨some 57,_,_,_,_,_⟩) hS _ _ 22 rfl 9 1 16 IA _ _ _ _ rfl;(case hp=>exact AS);(case hx=>exact rfl);(case hm=>(first|exact hS.slBlk AS (by rfl) (by decide)|exact hS.sl AS|with_reducible assumption|exact Sl.ext (by with_reducible assumption) hS.1|exact Sl.nil _ _|exact Sl.ext (by assumption) hS.1|assumption));(case h1=>(first|exact B6 rfl|(intro u hu;obtain ⟨x,_,rfl⟩:=List.mem_map.1 hu;rfl)));(case h63=>unfold maxLen;omega);(case hb=>omega);clear hS;intro ad57 c57 w hS;(first|simp only [DC] at hS|simp only [DD] at hS|simp only [DE] at hS|simp only [DF] at hS|simp only [DG] at hS|skip);refine AB ?_;go_step)|refine My 60 ?_;clear hS;intro g60 w hS|(refine AM 61 ?_);(refine Aq ?_;apply Am (o:=⟨some 61,_,_,_,_,_⟩) hS _ _ 22 rfl 9 1 16 IA _ _ _ _ rfl;(case hp=>exact AS);(case hx=>exact rfl);(case hm=>(first|exact hS.slBlk AS (by rfl) (by decide)|exact hS.sl AS|with_reducible assumption|exact Sl.ext (by with_reducible assumption) hS.1|exact Sl.nil _ _|exact Sl.ext (by assumption) hS.1|assumption));(case h1=>(first|exact B6 rfl|(intro u hu;obtain ⟨x,_,rfl⟩:=List.mem_map.1 hu;rfl)));(case h63=>unfold maxLen;omega);(case hb=>omega);clear hS;intro ad61 c61 w hS;(first|simp only [DC] at hS|simp only [DD] at hS|simp only [DE] at hS|simp only [DF] at hS|simp only [DG] at hS|skip);refine AB ?_;go_step)|refine AF ?_;go_step|fail)
    all_goals (try exact Ak)
    go_roundg (gk-1)
    case measure=>omega
    case rel=>exact ⟨k+1,m+1,_,_,_,_,K++[(s,a)],by omega,rfl,rfl,by go_num,(by rw [HKS.out ()];rfl),(by rw [List.length_append,HM.out];rfl),(by rw [List.map_append,List.map_append,List.map_append,List.map_append];simp only [List.map_cons,List.map_nil];exact hS.sub Ae)⟩
   obtain rfl:k=n1:=by omega
   have e1:L1.take k=L1:=List.take_of_length_le (by rw [HLL.out];exact Nat.le_refl _)
   have e2:A1.take k=A1:=List.take_of_length_le (by rw [HZL.out];exact Nat.le_refl _)
   rw [e1,e2] at hK
   have hkl:=HKL.out ()
   have hok:=NP (A:=A1) HOK.out
   rw [←hK] at hkl hok
   obtain ⟨G,hG⟩:∃G,K.map (·.1)=G:=⟨_,rfl⟩
   obtain ⟨Q,hQ⟩:∃Q,K.map (·.2)=Q:=⟨_,rfl⟩
   rw [hG,hQ] at hkl hS
   rw [hG] at hok
   have hv7:=AD fun (w:World)(hx:AP W1 w)(a:Option Addr)(c:Nat)(hv:Sl w 1 (.slice a m c) m (G.map Value.string))=>(HR2.out w (hE9.trans hx) a m c G hv (by omega) hok).mono fun e w' hh=>(by rw [hkl] at hh;exact hh:∃(a:Option Addr) (c:Nat),e= .returned (.tuple #[.slice a m c, .int .i64 0])∧St w w' [own 9 1 a m c (Q.map Value.string)])
   have HQ:=AD fun (w:World)(a b:Option Addr)(c d:Nat)(h1:Sl w 1 (.slice a m c) m (Q.map Value.string))(h2:Sl w 1 (.slice b m d) m (Q.map Value.string))=>GR w a b m c d Q h1 h2 (by omega)
   clear hkl hok hG hQ hK hm e1 e2
   repeat' (first
    | refine X1 ?_|refine X3 ?_|refine AF ?_;go_step|fail)
   all_goals (try exact Ak)
   repeat' (first
    | (refine Av 6 ?_);refine Aw AA Tryz.call6 (hv7.out _ hS.1 ag cg (hS.sl (a:=ag) (n:=m) (s:=1) AS)) ?_;rintro e w ⟨a6,c6,rfl,hS2⟩;replace hS:=hS.call1 hS2;clear hS2;refine A9 ?_;go_step|(refine Av 7 ?_);refine Aw AA Tryz.call7 (HQ.out _ a6 aw c6 cw (hS.sl (a:=a6) (n:=m) (s:=1) AS) (hS.sl (a:=aw) (n:=m) (s:=1) AS)) (Dj hS ?_);clear hS;intro w hS;go_step|refine X0 ?_|refine X6 ?_|(refine AM 69 ?_);(refine Bz _ (V.eql rfl rfl) AA (fun hB=>?_) (fun hB=>?_)<;>(try exact Ak)<;>go_step)|refine X8 ?_|refine AF ?_;go_step|fail)
   all_goals (try exact Ak)
   go_ret
   exact ⟨rfl,hE9.trans hS.1⟩
 have H1:=AD fun (w:World)(hx:AP W w)=>(HR1.out w hx).mono fun e w' hh=>hh.1 hA
 clear hA hl1
 repeat' (first
  | (refine Av 6 ?_);refine Aw AA Tryz.call6 (H1.out _ hS.1) (Dj hS ?_);clear hS;intro w hS;go_step|refine X0 ?_|refine Jd 29 ?_|refine Jd 30 ?_|refine OG 32 ?_|(refine AM 34 ?_);(refine AY AA (V.len Tryz.underlying22 rfl) ?_;go_step)|refine K9 35 ?_|refine AF ?_;go_step|fail)
 all_goals (try exact Ak)
 go_ret
 exact ⟨rfl,hS.1⟩
def BD:Array Value:=#[.slice none 0 0]
theorem FE:ownKnob Tryz.prog.godebug=none:=by kernel_rfl
theorem Ds:laidOutB Tryz.prog=true:=by kernel_rfl
theorem FD(os:Os)(args:Array Value):laidMetH Tryz.prog Rows.deskErrorsRow.laid ((World.laidAll Tryz.prog os Rows.deskErrorsRow.laid).forCall (fun _ _=>0) ⟨#[],args,[]⟩).memory:=by
 rw [MakeChecks.laidMetH_plain _ _ _ AA];exact laidMet_laidAll _ AA AA
theorem Ee(os:Os){H:Type}(enc:TypeId×Value→H):∃places,DataW.whole enc Tryz.prog ((World.laidAll Tryz.prog os Rows.deskErrorsRow.laid).forCall (fun _ _=>0) ⟨#[],BD,[]⟩).memory Tryz.f4.params.toList Rows.deskErrorsSpec.vars false (BD:Array Value).toList 8=some ([.nil],[],places):=
 ⟨[],by kernel_rfl⟩
theorem EB(os:Os)(started:os.Started)(H:Type)(enc:TypeId×Value→H)(F:Stop.Interp):
 ReturnsInHanded {} Tryz.checked os 4 .any ((OpenSpec.ofChange Rows.deskErrorsSpec).preRow enc Tryz.prog Tryz.f4 Rows.deskErrorsRow.domain false Rows.deskErrorsRow.laid) (((OpenSpec.ofChange Rows.deskErrorsSpec).at F).post enc Tryz.prog Tryz.f4 false true false false):=by
 obtain ⟨places,hx⟩:=Ee os enc
 have hok:Input.okWideB Tryz.prog ((World.laidAll Tryz.prog os Rows.deskErrorsRow.laid).forCall (fun _ _=>0) ⟨#[],BD,[]⟩) 4 ⟨#[],BD,[]⟩=true:=by kernel_rfl
 refine returnsInHanded_of_row (C:=Tryz.checked) (s:=OpenSpec.ofChange Rows.deskErrorsSpec) FE started AA Tryz.func4
  ⟨(World.laidAll Tryz.prog os Rows.deskErrorsRow.laid),fun _ _=>0,⟨#[],BD,[]⟩,World.laidAll_os _ _ _,World.shaped_of_ZipB AA AA,(Input.okWide_of_okWideB (base:=0) hok).1,(Input.okWide_of_okWideB hok).2,
   OpenSpec.preRow_of_cond 8 hx AA (fun k hk=>by cases hk) AA (FD os _),by
   simp only [Assume.holds]
   exact ⟨by simp,by simp,by simp,by simp,by simp⟩⟩ ?_
 intro W base args ds gs before hval0 hW _ hk _ hL hsh _
 have hval:∀(j:Nat) t v,Tryz.f4.params[j]? =some t→args[j]? =some v→Value.okWide Tryz.prog W .any base t v:=hval0
 have hW':=hW
 obtain ⟨p,q,hA0,hV,rfl,hfz,hnd⟩:=hW
 have hA:DataW.TrodAll enc Tryz.prog W 0 (fun _=>true) true Tryz.f4.params.toList args.toList ds p:=hA0
 rw [Tryz.params4] at hA hval
 obtain ⟨v0,vs0,d0,ds0,p0,q0,hargs,rfl,rfl,h0,r0⟩:=trodAll_cons hA
 obtain ⟨rfl,rfl,rfl⟩:=trodAll_nil r0
 obtain rfl:args=#[v0]:=by cases args;simp_all
 obtain ⟨rfl,rfl⟩:=trodVars_none hV
 have lt0:∀x∈p0,x.block<W.heap.size:=by obtain ⟨m,hm⟩:=h0;exact DataW.trod_lt m _ _ _ hm
 refine (E5 W (hval 0 22 v0 rfl rfl) h0 lt0 hsh hL).mono fun e W' ⟨he,bel⟩=>?_
 subst he
 exact ⟨_,rfl,_,_,_,[],_,[],hW',trodAll_mk1 (shut_bool Tryz.underlying4 _),(trodAll_cons_mk (Below.trod Ds AA (of_decide_eq_true AA) h0 bel lt0) trodAll_mk0),rfl,bel.frame _,fun h=>by cases h⟩
theorem E4:Rows.DeskErrorsSaid:=
 OpenClaim.holds_of_cond 4 Tryz.f4 rfl rfl rfl rfl rfl rfl rfl ⟨rfl,rfl,rfl,rfl,rfl⟩ rfl rfl rfl rfl rfl AA Tryz.func4 AA
  (of_decide_eq_true AA) (by unfold Func.isWrapper;rw [if_neg (by decide+kernel)];exact ⟨rfl,rfl⟩)
  (fun os started H enc _ F=>by rw [OpenClaim.pre_eq_preRow];exact EB os started H enc F)
theorem Dt(f:FuncId)(fn:Func)(hf:Tryz.pinned.checked.prog.funcNamed "mezzotint/mezzotintkeep.DeskErrors" =some f)(hfn:Tryz.pinned.checked.prog.funcs[f]? =some fn):
 true=Tryz.pinned.checked.prog.looks []∧∀(j:Nat) t,fn.params[j]? =some t→Tryz.pinned.checked.prog.wantsStandIn t=false:=by
 obtain rfl:f=4:=Option.some.inj ((show Tryz.prog.funcNamed "mezzotint/mezzotintkeep.DeskErrors" =some 4 by kernel_rfl).symm.trans hf) |>.symm
 obtain rfl:fn=Tryz.f4:=(Option.some.inj (Tryz.func4.symm.trans hfn)).symm
 refine ⟨by kernel_rfl,fun j t ht=>?_⟩
 rw [Tryz.params4] at ht
 have hm:t∈([22]:List Nat):=by simpa using Array.mem_of_getElem? ht
 have hall:(([22]:List Nat).all fun u=>!Tryz.prog.wantsStandIn u)=true:=by kernel_rfl
 exact (show Tryz.prog.wantsStandIn t=false by simpa using List.all_eq_true.1 hall t hm)
theorem DeskErrors_proved:Rows.DeskErrorsCardSaid:=
 Claim7.holds_tied_plain_at .later [] _ _ _ _ E4 (fun _ h=>by cases h) AA (fun _ h=>by cases h) deskErrors_row_tie rfl ⟨rfl,rfl⟩ AA rfl Dt AA
end Go.Proofs.YtngojkompmcceaaGreatDoor
