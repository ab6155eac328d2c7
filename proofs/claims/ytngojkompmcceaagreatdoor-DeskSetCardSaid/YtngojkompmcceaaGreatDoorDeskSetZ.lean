/- The law DeskSet: its walk, and the statement. -/
import Derived.Test.YtngojkompmcceaaGreatDoorBaseDZ2
import Derived.Test.YtngojkompmcceaaGreatDoorBaseDZ10
import Derived.Test.YtngojkompmcceaaGreatDoorBaseDZ11
import Derived.Test.YtngojkompmcceaaGreatDoorRows
import Derived.Test.YtngojkompmcceaaGreatDoorCards
import Derived.Test.YtngojkompmcceaaGreatDoorTie
import Derived.Deep.DeepHandedRow
import Derived.Lay
import Derived.SevenTiedAt
namespace Go.Proofs.YtngojkompmcceaaGreatDoor
attribute [local irreducible] Region.wanted
open Go.ChangeShapes Go.WideShapes Go.ChangeAt Go.RowKit
set_option linter.unusedVariables false
set_option maxRecDepth 100000
set_option maxHeartbeats 8000000
theorem Pz(a n:Int)(ha:0≤a∧a<8)(hn: -40000≤n∧n≤40000):Iy (QJ a n):=⟨by show 4≤60;decide,fun s hs=>by
 have h1:=Nm a n (by omega) (by omega)
 simp only [QJ,List.mem_cons,List.not_mem_nil,or_false] at hs
 rcases hs with rfl|rfl|rfl|rfl
 ·omega
 ·decide
 ·decide
 decide⟩
def QK(a:Nat)(n:Int):List Int:=(MW a n).take 8
theorem Ds(a:Nat)(n:Int):(QK a n).length=8:=by unfold QK MW;simp
theorem KJ(a:Nat)(n:Int)(i:Nat)(hi:i<8):(QK a n)[i]? =some (if i=a then n else 0):=by
 unfold QK MW
 rw [List.getElem?_take_of_lt hi,List.getElem?_set]
 by_cases h:a=i
 ·subst h
  rw [if_pos rfl,if_pos (by simp;omega),if_pos rfl]
 rw [if_neg h,if_neg (fun e=>h e.symm),List.getElem?_replicate,if_pos (by omega)]
def MY(a:Nat)(n:Int)(i:Nat):ByteArray:=FN ((QK a n).take i)
theorem N1(a:Nat)(n:Int):MY a n 0=nl:=rfl
theorem MD(a:Nat)(n:Int):MY a n 1=nl++Aa (if 0=a then n else 0):=by
 unfold MY
 rw [List.take_add_one,KJ a n 0 (by omega)]
 exact KW _
theorem N0(a:Nat)(n:Int)(i:Nat)(h0:0<i)(hi:i<8):MY a n (i+1)=MY a n i++⟨#[32]⟩++Aa (if i=a then n else 0):=by
 unfold MY
 rw [List.take_add_one,KJ a n i hi]
 refine MB _ _ fun h=>?_
 have:=congrArg List.length h
 rw [List.length_take,Ds] at this
 simp at this
 omega
theorem PI(a:Nat)(n:Int):MY a n 8=BN ((MW a n).take 8):=by
 unfold MY
 rw [List.take_of_length_le (by rw [Ds];exact Nat.le_refl _),←L7 _ (by rw [Ds];decide)]
 rfl
theorem P1(a:Nat)(n:Int)(i:Nat)(hn: -40000≤n∧n≤40000):(MY a n i).size≤88:=by
 unfold MY
 refine Nat.le_trans (PE _ fun x hx=>?_) ?_
 ·obtain ⟨j,hj,rfl⟩:=List.getElem_of_mem (List.mem_of_mem_take hx)
  rw [Ds] at hj
  have:=KJ a n j hj
  rw [List.getElem?_eq_getElem (by rw [Ds];exact hj)] at this
  injection this with this
  rw [this]
  split<;>omega
 have:((QK a n).take i).length≤8:=by rw [List.length_take,Ds];omega
 omega
theorem J7:Aa 0=⟨#[48]⟩:=by kernel_rfl
theorem V.neqE2{P:Program}{ty t u:TypeId}{a:Act}{x y:Operand}{s r:ByteArray}(hx:a.eval x= .string s)(hy:a.eval y= .string r)(h:s=r):Bi P (.binOp .neq t x y u) ty a (.bool false):=by have:=V.neqS (P:=P) (ty:=ty) (t:=t) (u:=u) hx hy;rwa [show decide (s≠r)=false by simp [h]] at this
theorem IF{H:Type}{enc:TypeId×Value→H}{d0 d1:DataW H}{p0 p1:List MemPlace}{v0 v1:Value}{base:Nat}(W:World)
 (o0:Value.okWide Tryz.prog W .any base 3 v0) (h0:DataW.Trod enc Tryz.prog W 0 (fun _=>true) true 3 v0 d0 p0) (lt0:∀x∈p0,x.block<W.heap.size)
 (o1:Value.okWide Tryz.prog W .any base 3 v1) (h1:DataW.Trod enc Tryz.prog W 0 (fun _=>true) true 3 v1 d1 p1) (lt1:∀x∈p1,x.block<W.heap.size)
 (hsh:W.ShapedOpen Tryz.prog) (hLM:laidMetH Tryz.prog Rows.deskSetRow.laid W):
 Calls Tryz.prog 5 #[v0,v1] W fun e w'=>e= .returned (.bool true)∧AP W w':=by
 obtain ⟨z0,rfl,_,_⟩:=Nb Tryz.underlying3 o0 h0
 obtain ⟨z1,rfl,_,_⟩:=Nb Tryz.underlying3 o1 h1
 have hL:CM W:=F9 hLM
 obtain ⟨bst,hbst⟩:=Jt
 have hS:=St.start W
 obtain ⟨A,hA⟩:∃A:Nat,z0%8=(A:Int):=⟨(z0%8).toNat,by omega⟩
 obtain ⟨n,hn⟩:∃n:Int,z1%80001=n+40000:=⟨z1%80001-40000,by omega⟩
 have hA8:A<8:=by omega
 have hnb: -40000≤n∧n≤40000:=by omega
 have HRA:=AC fun (w:World)=>JW z0 8 w (by omega) (by omega)
 have HRN:=AC fun (w:World)=>JW z1 80001 w (by omega) (by omega)
 rw [hA] at HRA
 rw [hn] at HRN
 have HDA:=AC (Fs (A:Int) (by omega))
 have HDN:=AC (Fs n (by omega))
 have hiA:=JK (A:Int) (by omega)
 have hiN:=JK n (by omega)
 have hrun:=Ni bst A n hA8 hnb
 rw [←PI] at hrun
 have hok:=Pz (A:Int) n (by omega) hnb
 have hln:=Lx (A:Int) n
 have hle:=P1 A n
 have h00:=N1 A n
 have h01:=fun _:Unit=>MD A n
 have h02:=fun (i:Nat)=>N0 A n i
 obtain ⟨wn,hwn⟩:∃f:Nat→ByteArray,(fun i=>MY A n i)=f:=⟨_,rfl⟩
 replace hwn:∀i,MY A n i=wn i:=fun i=>congrFun hwn i
 simp only [hwn] at hrun hle h00 h01 h02
 obtain ⟨IA,hIA⟩:∃x,Aa (A:Int)=x:=⟨_,rfl⟩
 obtain ⟨IN,hIN⟩:∃x,Aa n=x:=⟨_,rfl⟩
 obtain ⟨LL,hLL⟩:∃x,(if -2047≤n∧n≤2047 then Jp else E5 1)=x:=⟨_,rfl⟩
 rw [hLL] at hrun
 have HIN: -2047≤n∧n≤2047→LL=⟨#[111,107]⟩:=fun h=>by rw [←hLL,if_pos h];rfl
 have HOUT:¬(-2047≤n∧n≤2047)→LL≠⟨#[111,107]⟩:=fun h=>by rw [←hLL,if_neg h];exact Oi
 have hi1:Aa (if A=A then n else 0)=IN:=by rw [if_pos rfl,hIN]
 have hi0:∀i,i≠A→Aa (if i=A then n else 0)=⟨#[48]⟩:=fun i h=>by rw [if_neg h];exact J7
 have F1:0=A→wn 1=wn 0++IN:=fun h=>by rw [h01 (),h00,h,hi1]
 have F2:0≠A→wn 1=wn 0++⟨#[48]⟩:=fun h=>by rw [h01 (),h00,hi0 0 h]
 have F3:∀k,0<k→k<8→k=A→wn (k+1)=wn k++⟨#[32]⟩++IN:=fun k h1 h2 h=>by rw [h02 k h1 h2,h,hi1]
 have F4:∀k,0<k→k<8→k≠A→wn (k+1)=wn k++⟨#[32]⟩++⟨#[48]⟩:=fun k h1 h2 h=>by rw [h02 k h1 h2,hi0 k h]
 have HR:=AC fun (w:World)(hx:AP W w)(a:Option Addr)(c:Nat)(hv:Sl w 1 (.slice a 4 c) 4 [Value.string (⟨#[115,101,116,32]⟩++IA++⟨#[32]⟩++IN),Value.string ⟨#[115,104,111,119]⟩,Value.string ⟨#[99,111,97,114,115,101,32,49]⟩,Value.string ⟨#[117,112]⟩])=>(DL bst hbst w (hL.ext hx) a 4 c (QJ A n) (by unfold QJ;rw [hln,hIA,hIN];exact hv) (by omega)).mono fun e w' hh=>(by have:=hh.2 hok;rw [hrun] at this;exact this:∃(a:Option Addr) (c:Nat),e= .returned (.tuple #[.slice a 4 c, .int .i64 0])∧St w w' [own 9 1 a 4 c [Value.string ⟨#[111,107]⟩,Value.string (wn 8),Value.string ⟨#[111,107]⟩,Value.string LL]])
 rw [hIA] at HDA hiA
 rw [hIN] at HDN hiN
 have hs17:(⟨#[115,101,116,32]⟩:ByteArray).size+IA.size≤1000000:=by show 4+IA.size≤_;omega
 have sz:∀a b:ByteArray,(a++b).size=a.size+b.size:=fun a b=>ByteArray.size_append
 have hs18:((⟨#[115,101,116,32]⟩:ByteArray)++IA).size+(⟨#[32]⟩:ByteArray).size≤1000000:=by rw [sz];show 4+IA.size+1≤_;omega
 have hs21:((⟨#[115,101,116,32]⟩:ByteArray)++IA++(⟨#[32]⟩:ByteArray)).size+IN.size≤1000000:=by rw [sz,sz];show 4+IA.size+1+IN.size≤_;omega
 have hle2:∀i,(wn i).size≤88:=fun i=>hle i hnb
 clear o0 h0 lt0 o1 h1 lt1 hrun hok hln hle h01 h02 hwn hIA hIN hLL hi1 hi0 hsh hLM hbst hL hA hn
 go_enter Tryz.func5,Tryz.ntmps5
 repeat' (first
  | (refine AH 10 ?_);refine Ac (f:=8) Tryz.call8 AA ?_;refine ⟨_,(HRA.out _),?_⟩;rintro e w ⟨rfl,rfl⟩;refine A2 ?_;go_step|(refine AH 12 ?_);refine Ac (f:=8) Tryz.call8 AA ?_;refine ⟨_,(HRN.out _),?_⟩;rintro e w ⟨rfl,rfl⟩;refine A2 ?_;go_step|refine X0 ?_|(refine AH 13 ?_);(refine AR AA (V.subI rfl rfl (by omega)) ?_;go_step)|refine AF ?_;go_step|fail)
 all_goals (try exact AU)
 rw [show n+40000-40000=n by omega]
 repeat' (first
  | (refine AH 16 ?_);refine Ac (f:=9) Tryz.call9 AA ?_;refine ⟨_,(HDA.out _),?_⟩;rintro e w ⟨rfl,hE⟩;replace hS:=hS.ext hE;clear hE;refine A2 ?_;go_step|(refine AH 20 ?_);refine Ac (f:=9) Tryz.call9 AA ?_;refine ⟨_,(HDN.out _),?_⟩;rintro e w ⟨rfl,hE⟩;replace hS:=hS.ext hE;clear hE;refine A2 ?_;go_step|(refine AH 17 ?_);refine AR AA (V.addS rfl rfl hs17) ?_;go_step|(refine AH 18 ?_);refine AR AA (V.addS rfl rfl hs18) ?_;go_step|(refine AH 21 ?_);refine AR AA (V.addS rfl rfl hs21) ?_;go_step|(refine Ar 6 ?_);refine As AA Tryz.call6 (HR.out _ hS.1 (some ⟨g22,0,none⟩) 4 (hS.slBlk (n:=4) (s:=1) AQ rfl (by decide))) ?_;rintro e w ⟨a9,c9,rfl,hS2⟩;replace hS:=hS.call1 hS2;clear hS2;refine A2 ?_;go_step|refine X0 ?_|refine X5 24 ?_|refine X5 25 ?_|refine RN 22 ?_;clear hS;intro g22 w hS|refine AF ?_;go_step|fail)
 all_goals (try exact AU)
 have hv9:=hS.sl (a:=a9) (n:=4) (s:=1) AQ
 have hE9:=hS.1
 clear hS
 obtain ⟨W1,hW1⟩:∃z,z=w:=⟨w,rfl⟩
 subst hW1
 have hS:=St.start W1
 obtain ⟨b9,o9,rfl,hc9⟩:=BW hv9 (by omega)
 have hc0:=hc9 0 _ rfl
 have hc1:=hc9 1 _ rfl
 have hc2:=hc9 2 _ rfl
 have hc3:=hc9 3 _ rfl
 rw [Nat.add_zero] at hc0
 clear hc9 hv9
 repeat' (first
  | (refine AH 37 ?_);refine AR AA (V.neqE2 rfl rfl rfl) ?_;go_step|(refine AH 43 ?_);refine AR AA (V.neqE2 rfl rfl rfl) ?_;go_step|refine X0 ?_|refine Jo ?_|(refine AH 27 ?_);(refine BX _ (V.neq rfl rfl) AA (fun hB=>?_) (fun hB=>?_)<;>(try exact AU)<;>go_step)|(refine AH 31 ?_);(refine BX _ (V.neq rfl rfl) AA (fun hB=>?_) (fun hB=>?_)<;>(try exact AU)<;>go_step)|refine Mn 30 ?_|(refine AH 35 ?_);(refine AR AA (V.indexSl Tryz.underlying22 Gy rfl rfl (show Au 0 0 from rfl) (by omega) (show 0*1=0 from rfl) Bj) ?_;go_step)|(refine AH 41 ?_);(refine AR AA (V.indexSl Tryz.underlying22 Gy rfl rfl (show Au 2 2 from rfl) (by omega) (show 2*1=2 from rfl) Bj) ?_;go_step)|refine Mm ?_|refine AF ?_;go_step|fail)
 all_goals (try exact AU)
 repeat' (first
  | refine AF ?_;go_step|fail)
 all_goals (try exact AU)
 go_loopg [7,45] 8 (fun gk sv kv w=>∃k:Nat,gk+k=8∧sv= .string (wn k)∧kv= .int .i64 k∧St W1 w [])
 case atStart=>exact ⟨0,rfl,(by rw [h00];rfl),rfl,hS⟩
 case round=>
  clear hS
  obtain ⟨k,hk,rfl,rfl,hS⟩:=hrel
  by_cases hlt:k<8
  ·have hz:=hle2 k
   by_cases hk0:k=0
   ·by_cases hka:k=A
    ·have HW:∀_:Unit,wn (k+1)=wn k++IN:=fun _=>by subst hk0;exact F1 hka
     have hs58:(wn k).size+IN.size≤1000000:=by omega
     clear F1 F2 F3 F4 h00
     repeat' (first
      | (refine Ar 9 ?_);refine As AA Tryz.call9 (HDN.out _) (C9 hS ?_);clear hS;intro w hS;go_step|(refine AH 58 ?_);refine AR AA (V.addS rfl rfl hs58) ?_;go_step|refine X0 ?_|refine X2 ?_|refine Gg ?_|refine X4 ?_|refine K9 ?_|refine AF ?_;go_step|fail)
     all_goals (try exact AU)
     go_roundg (gk-1)
     case measure=>omega
     case rel=>exact ⟨k+1,by omega,(by rw [HW ()]),by go_num,hS.sub Ad⟩
    have HW:∀_:Unit,wn (k+1)=wn k++⟨#[48]⟩:=fun _=>by subst hk0;exact F2 hka
    have hs60:(wn k).size+(⟨#[48]⟩:ByteArray).size≤1000000:=by show (wn k).size+1≤_;omega
    clear F1 F2 F3 F4 h00
    repeat' (first
     | (refine AH 60 ?_);refine AR AA (V.addS rfl rfl hs60) ?_;go_step|refine X0 ?_|refine X2 ?_|refine Gg ?_|refine X4 ?_|refine K9 ?_|refine AF ?_;go_step|fail)
    all_goals (try exact AU)
    go_roundg (gk-1)
    case measure=>omega
    case rel=>exact ⟨k+1,by omega,(by rw [HW ()]),by go_num,hS.sub Ad⟩
   have hs51:(wn k).size+(⟨#[32]⟩:ByteArray).size≤1000000:=by show (wn k).size+1≤_;omega
   by_cases hka:k=A
   ·have HW:=fun _:Unit=>F3 k (by omega) hlt hka
    have hs58:(wn k++(⟨#[32]⟩:ByteArray)).size+IN.size≤1000000:=by rw [sz];show (wn k).size+1+IN.size≤_;omega
    clear F1 F2 F3 F4 h00
    repeat' (first
     | (refine AH 51 ?_);refine AR AA (V.addS rfl rfl hs51) ?_;go_step|(refine Ar 9 ?_);refine As AA Tryz.call9 (HDN.out _) (C9 hS ?_);clear hS;intro w hS;go_step|(refine AH 58 ?_);refine AR AA (V.addS rfl rfl hs58) ?_;go_step|refine X0 ?_|refine X2 ?_|refine Gg ?_|refine X4 ?_|refine K9 ?_|refine AF ?_;go_step|fail)
    all_goals (try exact AU)
    go_roundg (gk-1)
    case measure=>omega
    case rel=>exact ⟨k+1,by omega,(by rw [HW ()]),by go_num,hS.sub Ad⟩
   have HW:=fun _:Unit=>F4 k (by omega) hlt hka
   have hs60:(wn k++(⟨#[32]⟩:ByteArray)).size+(⟨#[48]⟩:ByteArray).size≤1000000:=by rw [sz];show (wn k).size+1+1≤_;omega
   clear F1 F2 F3 F4 h00
   repeat' (first
    | (refine AH 51 ?_);refine AR AA (V.addS rfl rfl hs51) ?_;go_step|(refine AH 60 ?_);refine AR AA (V.addS rfl rfl hs60) ?_;go_step|refine X0 ?_|refine X2 ?_|refine Gg ?_|refine X4 ?_|refine K9 ?_|refine AF ?_;go_step|fail)
   all_goals (try exact AU)
   go_roundg (gk-1)
   case measure=>omega
   case rel=>exact ⟨k+1,by omega,(by rw [HW ()]),by go_num,hS.sub Ad⟩
  obtain rfl:k=8:=by omega
  clear F1 F2 F3 F4 h00
  by_cases hN: -2047≤n∧n≤2047
  ·have HL:=HIN hN
   clear HIN HOUT
   repeat' (first
    | refine X1 ?_|refine X2 ?_|refine AF ?_;go_step|fail)
   all_goals (try exact AU)
   repeat' (first
    | (refine AH 66 ?_);refine AR AA (V.eqlT rfl rfl rfl) ?_;go_step|(refine AH 71 ?_);refine AR AA (V.eqlT rfl rfl HL) ?_;go_step|refine X0 ?_|refine X7 ?_|(refine AH 73 ?_);(refine BX _ (V.geq rfl rfl) AA (fun hB=>?_) (fun hB=>?_)<;>(try exact AU)<;>go_step)|(refine AH 63 ?_);(refine AR AA (V.indexSl Tryz.underlying22 Gy rfl rfl (show Au 1 1 from rfl) (by omega) (show 1*1=1 from rfl) Bj) ?_;go_step)|(refine AH 69 ?_);(refine AR AA (V.indexSl Tryz.underlying22 Gy rfl rfl (show Au 3 3 from rfl) (by omega) (show 3*1=3 from rfl) Bj) ?_;go_step)|refine Qz ?_|(with_reducible refine Ap _ (.binOp .eql 4 _ _ _) ?_);(refine AR AA (V.eqlB Tryz.underlying4 rfl rfl) ?_;go_step)|refine Mm ?_|refine AF ?_;go_step|fail)
   all_goals (try exact AU)
   go_ret
   refine ⟨?_,hE9.trans hS.1⟩
   show Ending.returned (.bool (decide (true=decide (n≤2047))))=_
   rw [show decide (n≤2047)=true from decide_eq_true (by omega)]
   rfl
  have HL:=HOUT hN
  clear HIN HOUT
  repeat' (first
   | refine X1 ?_|refine X2 ?_|refine AF ?_;go_step|fail)
  all_goals (try exact AU)
  repeat' (first
   | (refine AH 66 ?_);refine AR AA (V.eqlT rfl rfl rfl) ?_;go_step|(refine AH 71 ?_);refine AR AA (V.eqlF rfl rfl HL) ?_;go_step|go_skip|refine X0 ?_|refine QD ?_|(refine AH 73 ?_);(refine BX _ (V.geq rfl rfl) AA (fun hB=>?_) (fun hB=>?_)<;>(try exact AU)<;>go_step)|(refine AH 63 ?_);(refine AR AA (V.indexSl Tryz.underlying22 Gy rfl rfl (show Au 1 1 from rfl) (by omega) (show 1*1=1 from rfl) Bj) ?_;go_step)|(refine AH 69 ?_);(refine AR AA (V.indexSl Tryz.underlying22 Gy rfl rfl (show Au 3 3 from rfl) (by omega) (show 3*1=3 from rfl) Bj) ?_;go_step)|refine Qz ?_|(with_reducible refine Ap _ (.binOp .eql 4 _ _ _) ?_);(refine AR AA (V.eqlB Tryz.underlying4 rfl rfl) ?_;go_step)|refine Mm ?_|refine AF ?_;go_step|fail)
  all_goals (try exact AU)
  all_goals (go_ret;refine ⟨?_,hE9.trans hS.1⟩;first|rfl|(show Ending.returned (.bool (decide (false=decide (n≤2047))))=_;rw [show decide (n≤2047)=false from decide_eq_false (by omega)];rfl))
def Bs:Array Value:=#[.int .i64 0, .int .i64 0]
theorem Iw:ownKnob Tryz.prog.godebug=none:=by kernel_rfl
theorem DS:laidOutB Tryz.prog=true:=by kernel_rfl
theorem Iv(os:Os)(args:Array Value):laidMetH Tryz.prog Rows.deskSetRow.laid ((World.laidAll Tryz.prog os Rows.deskSetRow.laid).forCall (fun _ _=>0) ⟨#[],args,[]⟩).memory:=by
 rw [MakeChecks.laidMetH_plain _ _ _ AA];exact laidMet_laidAll _ AA AA
theorem Gp(os:Os){H:Type}(enc:TypeId×Value→H):∃places,DataW.whole enc Tryz.prog ((World.laidAll Tryz.prog os Rows.deskSetRow.laid).forCall (fun _ _=>0) ⟨#[],Bs,[]⟩).memory Tryz.f5.params.toList Rows.deskSetSpec.vars false (Bs:Array Value).toList 8=some ([.lit (.int .i64 0), .lit (.int .i64 0)],[],places):=
 ⟨[],by kernel_rfl⟩
theorem Fg(os:Os)(started:os.Started)(H:Type)(enc:TypeId×Value→H)(F:Stop.Interp):
 ReturnsInHanded {} Tryz.checked os 5 .any ((OpenSpec.ofChange Rows.deskSetSpec).preRow enc Tryz.prog Tryz.f5 Rows.deskSetRow.domain false Rows.deskSetRow.laid) (((OpenSpec.ofChange Rows.deskSetSpec).at F).post enc Tryz.prog Tryz.f5 false true false false):=by
 obtain ⟨places,hx⟩:=Gp os enc
 have hok:Input.okWideB Tryz.prog ((World.laidAll Tryz.prog os Rows.deskSetRow.laid).forCall (fun _ _=>0) ⟨#[],Bs,[]⟩) 5 ⟨#[],Bs,[]⟩=true:=by kernel_rfl
 refine returnsInHanded_of_row (C:=Tryz.checked) (s:=OpenSpec.ofChange Rows.deskSetSpec) Iw started AA Tryz.func5
  ⟨(World.laidAll Tryz.prog os Rows.deskSetRow.laid),fun _ _=>0,⟨#[],Bs,[]⟩,World.laidAll_os _ _ _,World.shaped_of_ZipB AA AA,(Input.okWide_of_okWideB (base:=0) hok).1,(Input.okWide_of_okWideB hok).2,
   OpenSpec.preRow_of_cond 8 hx AA (fun k hk=>by cases hk) AA (Iv os _),by
   simp only [Assume.holds]
   exact ⟨by simp,by simp,by simp,by simp,by simp⟩⟩ ?_
 intro W base args ds gs before hval0 hW _ hk _ hL hsh _
 have hval:∀(j:Nat) t v,Tryz.f5.params[j]? =some t→args[j]? =some v→Value.okWide Tryz.prog W .any base t v:=hval0
 have hW':=hW
 obtain ⟨p,q,hA0,hV,rfl,hfz,hnd⟩:=hW
 have hA:DataW.TrodAll enc Tryz.prog W 0 (fun _=>true) true Tryz.f5.params.toList args.toList ds p:=hA0
 rw [Tryz.params5] at hA hval
 obtain ⟨v0,vs0,d0,ds0,p0,q0,hargs,rfl,rfl,h0,r0⟩:=trodAll_cons hA
 obtain ⟨v1,vs1,d1,ds1,p1,q1,rfl,rfl,rfl,h1,r1⟩:=trodAll_cons r0
 obtain ⟨rfl,rfl,rfl⟩:=trodAll_nil r1
 obtain rfl:args=#[v0,v1]:=by cases args;simp_all
 obtain ⟨rfl,rfl⟩:=trodVars_none hV
 have lt0:∀x∈p0,x.block<W.heap.size:=by obtain ⟨m,hm⟩:=h0;exact DataW.trod_lt m _ _ _ hm
 have lt1:∀x∈p1,x.block<W.heap.size:=by obtain ⟨m,hm⟩:=h1;exact DataW.trod_lt m _ _ _ hm
 refine (IF W (hval 0 3 v0 rfl rfl) h0 lt0 (hval 1 3 v1 rfl rfl) h1 lt1 hsh hL).mono fun e W' ⟨he,bel⟩=>?_
 subst he
 exact ⟨_,rfl,_,_,_,[],_,[],hW',trodAll_mk1 (shut_bool Tryz.underlying4 _),(trodAll_cons_mk (Below.trod DS AA (of_decide_eq_true AA) h0 bel lt0) (trodAll_cons_mk (Below.trod DS AA (of_decide_eq_true AA) h1 bel lt1) trodAll_mk0)),rfl,bel.frame _,fun h=>by cases h⟩
theorem IE:Rows.DeskSetSaid:=
 OpenClaim.holds_of_cond 5 Tryz.f5 rfl rfl rfl rfl rfl rfl rfl ⟨rfl,rfl,rfl,rfl,rfl⟩ rfl rfl rfl rfl rfl AA Tryz.func5 AA
  (of_decide_eq_true AA) (by unfold Func.isWrapper;rw [if_neg (by decide+kernel)];exact ⟨rfl,rfl⟩)
  (fun os started H enc _ F=>by rw [OpenClaim.pre_eq_preRow];exact Fg os started H enc F)
theorem FT(f:FuncId)(fn:Func)(hf:Tryz.pinned.checked.prog.funcNamed "mezzotint/mezzotintkeep.DeskSet" =some f)(hfn:Tryz.pinned.checked.prog.funcs[f]? =some fn):
 true=Tryz.pinned.checked.prog.looks []∧∀(j:Nat) t,fn.params[j]? =some t→Tryz.pinned.checked.prog.wantsStandIn t=false:=by
 obtain rfl:f=5:=Option.some.inj ((show Tryz.prog.funcNamed "mezzotint/mezzotintkeep.DeskSet" =some 5 by kernel_rfl).symm.trans hf) |>.symm
 obtain rfl:fn=Tryz.f5:=(Option.some.inj (Tryz.func5.symm.trans hfn)).symm
 refine ⟨by kernel_rfl,fun j t ht=>?_⟩
 rw [Tryz.params5] at ht
 have hm:t∈([3,3]:List Nat):=by simpa using Array.mem_of_getElem? ht
 have hall:(([3,3]:List Nat).all fun u=>!Tryz.prog.wantsStandIn u)=true:=by kernel_rfl
 exact (show Tryz.prog.wantsStandIn t=false by simpa using List.all_eq_true.1 hall t hm)
theorem DeskSet_proved:Rows.DeskSetCardSaid:=
 Claim7.holds_tied_plain_at .later [] _ _ _ _ IE (fun _ h=>by cases h) AA (fun _ h=>by cases h) deskSet_row_tie rfl ⟨rfl,rfl⟩ AA rfl FT AA
end Go.Proofs.YtngojkompmcceaaGreatDoor
