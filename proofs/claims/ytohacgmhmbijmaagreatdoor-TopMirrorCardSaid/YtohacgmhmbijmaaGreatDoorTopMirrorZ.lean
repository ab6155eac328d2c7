/- The law TopMirror: its walk, and the statement. -/
import Derived.Test.YtohacgmhmbijmaaGreatDoorBaseNZ2
import Derived.Test.YtohacgmhmbijmaaGreatDoorBaseNZ3
import Derived.Test.YtohacgmhmbijmaaGreatDoorBaseNZ4
import Derived.Test.YtohacgmhmbijmaaGreatDoorBaseNZ18
import Derived.Test.YtohacgmhmbijmaaGreatDoorBaseNZ19
import Derived.Test.YtohacgmhmbijmaaGreatDoorRows
import Derived.Test.YtohacgmhmbijmaaGreatDoorCards
import Derived.Test.YtohacgmhmbijmaaGreatDoorTie
import Derived.Deep.DeepHandedRow
import Derived.Lay
import Derived.SevenTiedAt
namespace Go.Proofs.YtohacgmhmbijmaaGreatDoor
attribute [local irreducible] Region.wanted
open Go.ChangeShapes Go.WideShapes Go.ChangeAt Go.RowKit
set_option linter.unusedVariables false
set_option maxRecDepth 100000
set_option maxHeartbeats 8000000
structure QJ(w M i:Nat)(P R:List Int):Prop where
 lp:P.length=M
 lr:R.length=M
 bp:∀j,0≤AF P j∧AF P j≤255
 br:∀j,0≤AF R j∧AF R j≤255
 mm:∀x,x<i→AF R (LI w x)=AF P x
theorem Um{w x:Nat}(hw:0<w):LI w (LI w x)=x:=by
 obtain ⟨h1,h2⟩:=Ig (x:=x) hw
 have h3:=Nat.mod_lt x hw
 have h4:=Nat.div_add_mod x w
 rw [Nat.mul_comm] at h4
 show LI w x/w*w+(w-1-LI w x%w)=x
 rw [h1,h2]
 omega
theorem QJ.step{w M H i:Nat}{P P' R:List Int}(hw:0<w)(hM:w*H=M)(h:QJ w M i P R)(hi:i<M)(lp:P'.length=M)(bp:∀j,0≤AF P' j∧AF P' j≤255)(he:∀x,x<i→AF P' x=AF P x):QJ w M (i+1) P' (R.set (LI w i) (AF P' i)):=by
 have hm:LI w i<M:=by rw [←hM];exact PR hw (by rw [hM];exact hi)
 refine ⟨lp,by rw [List.length_set];exact h.lr,bp,fun j=>?_,fun x hx=>?_⟩
 ·by_cases hj:LI w i=j
  ·rw [Bj _ _ _ _ (by rw [h.lr];exact hm),if_pos hj];exact bp i
  rw [Bj _ _ _ _ (by rw [h.lr];exact hm),if_neg hj];exact h.br j
 rw [Bj _ _ _ _ (by rw [h.lr];exact hm)]
 by_cases hxi:x=i
 ·rw [hxi,if_pos rfl]
 have:LI w i≠LI w x:=fun e=>hxi (by rw [←Um (x:=x) hw,←e,Um hw])
 rw [if_neg this,h.mm x (by omega),he x (by omega)]
theorem QJ.start{w M:Nat}:QJ w M 0 (List.replicate (M*1) 0) (List.replicate (M*1) 0):=by
 have b:∀j,0≤AF (List.replicate (M*1) (0:Int)) j∧AF (List.replicate (M*1) (0:Int)) j≤255:=fun j=>by
  by_cases hj:j<M*1
  ·rw [BS _ _ _ hj];omega
  rw [Bp _ _ (by rw [List.length_replicate];omega)];omega
 exact ⟨by rw [List.length_replicate,Nat.mul_one],by rw [List.length_replicate,Nat.mul_one],b,b,fun x hx=>by omega⟩
theorem ij{P:List Int}{M i:Nat}{v:Int}(lp:P.length=M)(hi:i<M)(b:∀j,0≤AF P j∧AF P j≤255)(hv:0≤v∧v≤255):(P.set i v).length=M∧(∀j,0≤AF (P.set i v) j∧AF (P.set i v) j≤255)∧∀x,x<i→AF (P.set i v) x=AF P x:=by
 refine ⟨by rw [List.length_set];exact lp,fun j=>?_,fun x hx=>?_⟩
 ·rw [Bj _ _ _ _ (by omega)]
  split
  ·exact hv
  exact b j
 rw [Bj _ _ _ _ (by omega),if_neg (by omega)]
theorem Z2(z:Int)(w:World):Calls Tryz.prog 28 #[.int .i64 z, .int .i64 256] w fun e w'=>∃v,e= .returned (.int .i64 v)∧(0≤v∧v≤255)∧w=w':=
 (Cu z 256 w (by omega) (by omega)).mono fun e w' h=>⟨z%256,h.1,by omega,h.2⟩
theorem L3{H:Type}{enc:TypeId×Value→H}{d0 d1 d2 d3:DataW H}{p0 p1 p2 p3:List MemPlace}{v0 v1 v2 v3:Value}{base:Nat}(W:World)
 (o0:Value.okWide Tryz.prog W .any base 30 v0) (h0:DataW.Trod enc Tryz.prog W 0 (fun _=>true) true 30 v0 d0 p0) (lt0:∀x∈p0,x.block<W.heap.size)
 (o1:Value.okWide Tryz.prog W .any base 3 v1) (h1:DataW.Trod enc Tryz.prog W 0 (fun _=>true) true 3 v1 d1 p1) (lt1:∀x∈p1,x.block<W.heap.size)
 (o2:Value.okWide Tryz.prog W .any base 3 v2) (h2:DataW.Trod enc Tryz.prog W 0 (fun _=>true) true 3 v2 d2 p2) (lt2:∀x∈p2,x.block<W.heap.size)
 (o3:Value.okWide Tryz.prog W .any base 26 v3) (h3:DataW.Trod enc Tryz.prog W 0 (fun _=>true) true 26 v3 d3 p3) (lt3:∀x∈p3,x.block<W.heap.size)
 (hsh:W.ShapedOpen Tryz.prog):
 Calls Tryz.prog 12 #[v0,v1,v2,v3] W fun e w'=>e= .returned (.bool true)∧Ah W w':=by
 obtain ⟨n,ns,hnl,hv,hw⟩:=JU .i64 Tryz.underlying30 1 AA 1 AA (by omega) o0 h0
 obtain ⟨z1,rfl,_,_⟩:=Dw Tryz.underlying3 o1 h1
 obtain ⟨z2,rfl,_,_⟩:=Dw Tryz.underlying3 o2 h2
 obtain ⟨q,hq,rfl,_⟩:=JT o3
 have hml:∃m,W.cell? ⟨0,0,none⟩=some (.int .i64 m):=Tryz.laysM185.s1_3 W hsh
 clear o0 h0 lt0 o1 h1 lt1 o2 h2 lt2 o3 h3 lt3 hw hsh
 obtain ⟨ad,cp,rfl,hnc,hcm⟩:∃ad c,v0= .slice ad n c∧n≤c∧c≤9223372036854775807:=by
  obtain ⟨_,ad,c,h1,h2,h3,_⟩:=hv
  exact ⟨ad,c,h1,h2,by unfold maxLen at h3;exact h3⟩
 have hS:=St.start W
 have HML:=AD hml
 have hqL:Ae q 64:=hq
 by_cases oq:Ej q=true
 case neg=>
  have HQC:=AD fun (w:World)=>(by have:=Be w q hq;rw [if_neg oq] at this;exact this:Calls Tryz.prog 36 #[.agg (iv q)] w fun e w'=>e= .returned (.int .i64 1)∧Ah w w')
  clear hml
  go_enter Tryz.func12,Tryz.ntmps12
  repeat' (first
   | (refine Am 35 ?_);refine An AA Tryz.call35 (ID _ (HML.out.imp fun m h=>hS.1.cell h)) (Fq hS ?_);clear hS;intro w hS;go_step|(refine Am 36 ?_);refine An AA Tryz.call36 (HQC.out _) (Fq hS ?_);clear hS;intro w hS;go_step|refine X8 ?_|refine T7 18 ?_|refine Gq 21 ?_|refine L7 7 ?_;clear hS;intro g7 w hS|refine Hp ?_|refine AG ?_;go_step|fail)
  all_goals (try exact AS)
  go_ret
  exact ⟨rfl,hS.1⟩
 have HQC:=AD fun (w:World)=>(by have:=Be w q hq;rw [if_pos oq] at this;exact this:Calls Tryz.prog 36 #[.agg (iv q)] w fun e w'=>e= .returned (.int .i64 0)∧Ah w w')
 obtain ⟨y1,hy1⟩:∃y,z1%4=y:=⟨_,rfl⟩
 obtain ⟨y2,hy2⟩:∃y,z2%30=y:=⟨_,rfl⟩
 obtain ⟨t,ht⟩:∃t:Nat,y1+1=(t:Int):=⟨(y1+1).toNat,by omega⟩
 obtain ⟨H9,hH⟩:∃t:Nat,y2+1=(t:Int):=⟨(y2+1).toNat,by omega⟩
 have ht8:1≤t∧t≤4:=by omega
 have hH8:1≤H9∧H9≤30:=by omega
 obtain ⟨d,hd⟩:∃d,8*t=d:=⟨_,rfl⟩
 have hd8:8≤d∧d≤32:=by omega
 obtain ⟨M,hM⟩:∃M,d*H9=M:=⟨_,rfl⟩
 have hMb:1≤M∧M≤960:=by
  have h1:=Nat.mul_le_mul hd8.2 hH8.2
  have h2:=Nat.mul_le_mul hd8.1 hH8.1
  omega
 have hMI:(d:Int)*(H9:Int)=(M:Int):=by rw [←hM,Int.natCast_mul]
 have HY1:=AD hy1
 have HY2:=AD hy2
 have HMM:=AD hM
 have HSN:Hid (∀w a9 c9 p,Ah W w→p.length=M→(∀i,0≤AF p i∧AF p i≤255)→Sl w 1 (.slice a9 M c9) M (p.map (Value.int .i64))→Calls Tryz.prog 37 #[.slice a9 M c9, .int .i64 d, .int .i64 H9, .agg (iv q)] w fun e w'=>∃b0 u0,e= .returned (.tuple #[.slice b0 M u0, .bool true])∧Ah w w'∧Sl w' 1 (.slice b0 M u0) M ((Ei d H9 q p).map (Value.int .i64))):=
  AD fun w a9 c9 p hx hl hp hs=>aB w (hml.imp fun m h=>hx.cell h) a9 c9 M p d H9 (by omega) (by omega) hMI hl hp q hq oq hs
 have HPX:Hid (∀P R,QJ d M M P R→∀x,x<M→AF (Ei d H9 q R) (LI d x)=AF (Ei d H9 q P) x):=AD fun P R hL x hx=>by
  subst hd
  exact TN (by omega) (by omega) hq oq hL.bp hL.br (fun y hy=>hL.mm y (by omega)) x (by omega)
 clear hml hy1 hy2 hM
 go_enter Tryz.func12,Tryz.ntmps12
 repeat' (first
  | (refine Am 35 ?_);refine An AA Tryz.call35 (ID _ (HML.out.imp fun m h=>hS.1.cell h)) (Fq hS ?_);clear hS;intro w hS;go_step|(refine Am 36 ?_);refine An AA Tryz.call36 (HQC.out _) (Fq hS ?_);clear hS;intro w hS;go_step|refine X0 ?_|refine T7 18 ?_|refine Gq 21 ?_|refine L7 7 ?_;clear hS;intro g7 w hS|refine Hp ?_|refine AG ?_;go_step|fail)
 all_goals (try exact AS)
 repeat' (first
  | (refine AQ 24 ?_);(refine Af (.int _ ((t:Int))) (V.as (V.addI rfl rfl (by omega)) (by omega)) (by kernel_rfl) ?_;go_step)|(refine AQ 25 ?_);(refine Af (.int _ ((d:Int))) (V.as (V.mulI rfl rfl (by omega)) (by omega)) (by kernel_rfl) ?_;go_step)|(refine AQ 28 ?_);(refine Af (.int _ ((H9:Int))) (V.as (V.addI rfl rfl (by omega)) (by omega)) (by kernel_rfl) ?_;go_step)|(refine AQ 23 ?_);refine AL (f:=28) Tryz.call28 AA ?_;refine ⟨_,(Cu z1 4 _ (by omega) (by omega)),?_⟩;rintro e w' ⟨rfl,rfl⟩;rw [HY1.out];refine Ab ?_;go_step|(refine AQ 27 ?_);refine AL (f:=28) Tryz.call28 AA ?_;refine ⟨_,(Cu z2 30 _ (by omega) (by omega)),?_⟩;rintro e w' ⟨rfl,rfl⟩;rw [HY2.out];refine Ab ?_;go_step|refine X0 ?_|refine AG ?_;go_step|fail)
 apply R3 (rs:=fun g32 g36=>[arr g7 64 q,own 3 1 (some ⟨g32,0,none⟩) M M ((List.replicate (M*1) 0).map (Value.int .i64)),own 3 1 (some ⟨g36,0,none⟩) M M ((List.replicate (M*1) 0).map (Value.int .i64))])
 ·refine AP [] (fun _=>True) AA ?_
  replace hS:=hS.drew
  focus
   refine AY 0 ?_
   refine AY 1 ?_
   (refine BA 2 (.int _ ((M:Int))) Ai AA AA AA B5 (V.as (V.mulI rfl rfl (by omega)) (by omega)) AA ?_)
   go_step
   refine AY 4 ?_
   refine AY 5 ?_
   (refine BA 6 (.int _ ((M:Int))) Ai AA AA AA B5 (V.as (V.mulI rfl rfl (by omega)) (by omega)) AA ?_)
   go_step
   refine Ay [3,7] AA (by simp) (.cons Ai AA ?_ (.cons Ai AA ?_ (.nil)))
   rotate_left 1
   focus
    refine Y2 ?_;clear hS;intro g36 w hS
    refine Ao 3 ?_
    refine Y2 ?_;clear hS;intro g32 w hS
    refine AY 8 ?_
    refine AY 9 ?_
    refine AE AA ?_ _
    exact ⟨rfl,g32,g36,rfl,hS.sub AV⟩
   rotate_right 1
   focus
    refine Y2 ?_;clear hS;intro g32 w hS
    refine AY 8 ?_
    refine Ao 7 ?_
    refine Y2 ?_;clear hS;intro g36 w hS
    refine AY 9 ?_
    refine AE AA ?_ _
    exact ⟨rfl,g32,g36,rfl,hS.sub AV⟩
 clear hS
 intro g32 g36 w hS
 repeat' (first|(refine AG ?_;go_step)|fail)
 repeat' (first
  | refine X1 ?_|refine LR 38 ?_|refine AG ?_;go_step|fail)
 go_loopg [39] M (fun gk kv w=>∃(i:Nat) (P R:List Int),gk+i=M∧kv= .int .i64 i∧QJ d M i P R∧St W w [arr g7 64 q,own 3 1 (some ⟨g32,0,none⟩) M M (P.map (Value.int .i64)),own 3 1 (some ⟨g36,0,none⟩) M M (R.map (Value.int .i64))])
 case atStart=>exact ⟨0,_,_,rfl,rfl,QJ.start,hS⟩
 case round=>
  clear hS
  obtain ⟨i,P,R,hi,rfl,hL,hS⟩:=hrel
  by_cases hlt:i<M
  ·obtain ⟨q0,hq0⟩:∃x,i/d=x:=⟨_,rfl⟩
   obtain ⟨c0,hc0⟩:∃x,i%d=x:=⟨_,rfl⟩
   obtain ⟨p0,hp0⟩:∃x,q0*d=x:=⟨_,rfl⟩
   have hcd:c0<d:=by rw [←hc0];exact Nat.mod_lt _ (by omega)
   have hdm:p0+c0=i:=by
    have:=Nat.div_add_mod i d
    rw [hq0,hc0,Nat.mul_comm,hp0] at this
    exact this
   obtain ⟨mr,hmr⟩:∃x,LI d i=x:=⟨_,rfl⟩
   have hmre:p0+(d-1-c0)=mr:=by rw [←hmr];unfold LI;rw [hq0,hc0,hp0]
   have hmrl:mr<M:=by rw [←hmr,←HMM.out];exact PR (by omega) (by rw [HMM.out];exact hlt)
   have hI1:(i:Int)/(d:Int)=(q0:Int):=by rw [←hq0,Int.natCast_ediv]
   have hI2:(i:Int)%(d:Int)=(c0:Int):=by rw [←hc0,Int.natCast_emod]
   have hI3:(q0:Int)*(d:Int)=(p0:Int):=by rw [←hp0,Int.natCast_mul]
   have HL:=AD hL
   have HMR:=AD hmr
   clear hL hmr hq0 hc0 hp0
   by_cases hn0:n=0
   ·have hst:Hid (QJ d M (i+1) P (R.set mr (AF P i))):=AD (by have:=HL.out.step (by omega) HMM.out hlt HL.out.lp HL.out.bp (fun _ _=>rfl);rw [HMR.out] at this;exact this)
    repeat' (first
     | refine X0 ?_|refine X4 40 ?_|refine LR 43 ?_|refine L9 44 ?_|refine AG ?_;go_step|fail)
    all_goals (try exact AS)
    refine AP [18] (fun w=>St W w [own 3 1 (some ⟨g32,0,none⟩) M M (P.map (Value.int .i64)),own 3 1 (some ⟨g36,0,none⟩) M M (R.map (Value.int .i64))]) AA ?_
    replace hS:=hS.drew
    focus
     refine AY 0 ?_
     refine AY 1 ?_
     refine AY 2 ?_
     (refine BA 3 (.int _ ((q0:Int))) Ai AA AA AA B5 (V.as (V.quo rfl rfl (by omega) (by omega)) (by omega)) AA ?_)
     go_step
     refine AY 4 ?_
     (refine BA 5 (.int _ ((p0:Int))) Ai AA AA AA B5 (V.as (V.mulI rfl rfl (by omega)) (by omega)) AA ?_)
     go_step
     refine AY 6 ?_
     refine Vv 7 ?_
     refine gu 8 ?_
     refine AY 9 ?_
     refine AY 10 ?_
     (refine BA 11 (.int _ ((c0:Int))) Ai AA AA AA B5 (V.as (V.rem rfl rfl (by omega) (by omega)) (by omega)) AA ?_)
     go_step
     (refine BA 12 (.int _ ((mr:Int))) Ai AA AA AA B5 (V.as (V.subI rfl rfl (by omega)) (by omega)) AA ?_)
     go_step
     refine AY 13 ?_
     refine AY 14 ?_
     refine Y6 15 ?_
     refine jM 16 [17,18] ?_
     refine Y6 17 ?_
     refine Ao 18 ?_
     refine fA ?_;clear hS;intro w hS
     refine AE AA ?_ _
    all_goals
     repeat' (first|(refine AG ?_;go_step)|fail)
     repeat' (first
      | refine X1 ?_|refine Ns 77 ?_|refine AG ?_;go_step|fail)
     go_roundg (gk-1)
     case measure=>omega
     case rel=>exact ⟨i+1,P,R.set mr (AF P i),by omega,by go_num,hst.out,hS.sub AV⟩
   have hin:i%n<n:=Nat.mod_lt _ (by omega)
   repeat' (first
    | (refine AQ 56 ?_);refine Aq AA (V.add rfl rfl) ?_;go_step|(refine Am 28 ?_);refine An AA Tryz.call28 (Z2 _ _) ?_;rintro e w' ⟨v,rfl,hv0,rfl⟩;refine Ab ?_;go_step|refine X0 ?_|refine X4 40 ?_|refine LR 43 ?_|refine L9 44 ?_|refine LR 50 ?_|(refine AQ 51 ?_);(refine Aq AA (V.rem rfl rfl (by omega) (by omega)) ?_;go_step)|refine cT 52 ?_;intro b52 o52 hc52;go_step|(refine AQ 55 ?_);(refine Aq AA (V.quo rfl rfl (by omega) (by omega)) ?_;go_step)|refine Vu 58 ?_|refine SQ ?_|refine Vg ?_;clear hS;intro w hS|refine AG ?_;go_step|fail)
   all_goals (try exact AS)
   obtain ⟨P2,hP2⟩:∃X,P.set i v=X:=⟨_,rfl⟩
   have hst:Hid (QJ d M (i+1) P2 (R.set mr (AF P2 i))):=AD (by
    obtain ⟨e1,e2,e3⟩:=ij HL.out.lp hlt HL.out.bp hv0
    rw [hP2] at e1 e2 e3
    have:=HL.out.step (by omega) HMM.out hlt e1 e2 e3
    rw [HMR.out] at this;exact this)
   rw [hP2] at hS
   clear HL hP2
   clear P
   obtain ⟨P,rfl⟩:∃P,P=P2:=⟨_,rfl⟩
   refine AP [18] (fun w=>St W w [own 3 1 (some ⟨g32,0,none⟩) M M (P.map (Value.int .i64)),own 3 1 (some ⟨g36,0,none⟩) M M (R.map (Value.int .i64))]) AA ?_
   replace hS:=hS.drew
   focus
    refine AY 0 ?_
    refine AY 1 ?_
    refine AY 2 ?_
    (refine BA 3 (.int _ ((q0:Int))) Ai AA AA AA B5 (V.as (V.quo rfl rfl (by omega) (by omega)) (by omega)) AA ?_)
    go_step
    refine AY 4 ?_
    (refine BA 5 (.int _ ((p0:Int))) Ai AA AA AA B5 (V.as (V.mulI rfl rfl (by omega)) (by omega)) AA ?_)
    go_step
    refine AY 6 ?_
    refine Vv 7 ?_
    refine gu 8 ?_
    refine AY 9 ?_
    refine AY 10 ?_
    (refine BA 11 (.int _ ((c0:Int))) Ai AA AA AA B5 (V.as (V.rem rfl rfl (by omega) (by omega)) (by omega)) AA ?_)
    go_step
    (refine BA 12 (.int _ ((mr:Int))) Ai AA AA AA B5 (V.as (V.subI rfl rfl (by omega)) (by omega)) AA ?_)
    go_step
    refine AY 13 ?_
    refine AY 14 ?_
    refine Y6 15 ?_
    refine jM 16 [17,18] ?_
    refine Y6 17 ?_
    refine Ao 18 ?_
    refine fA ?_;clear hS;intro w hS
    refine AE AA ?_ _
   all_goals
    repeat' (first|(refine AG ?_;go_step)|fail)
    repeat' (first
     | refine X1 ?_|refine Ns 77 ?_|refine AG ?_;go_step|fail)
    go_roundg (gk-1)
    case measure=>omega
    case rel=>exact ⟨i+1,P,R.set mr (AF P i),by omega,by go_num,hst.out,hS.sub AV⟩
  obtain rfl:M=i:=by omega
  repeat' (first
   | refine X1 ?_|refine X4 40 ?_|refine AG ?_;go_step|fail)
  all_goals (try exact AS)
  have HL:=AD hL
  repeat' (first
   | (refine AQ 83 ?_);refine AL (f:=37) Tryz.call37 AA ?_;refine ⟨_,(HSN.out _ _ _ P hS.1 HL.out.lp HL.out.bp (hS.sl (a:=some ⟨g32,0,none⟩) AM)),?_⟩;rintro e w ⟨b0,u0,rfl,hE,hvx⟩;replace hS:=hS.ext hE;clear hE;refine Ab ?_;go_step|(refine AQ 91 ?_);refine AL (f:=37) Tryz.call37 AA ?_;refine ⟨_,(HSN.out _ _ _ R hS.1 HL.out.lr HL.out.br (hS.sl (a:=some ⟨g36,0,none⟩) AM)),?_⟩;rintro e w ⟨b1,u1,rfl,hE,hvy⟩;replace hS:=hS.ext hE;replace hvx:=hvx.ext hE;clear hE;refine Ab ?_;go_step|refine X0 ?_|refine Gj ?_|refine LO 95 ?_ ?_<;>intro hB<;>(try exact LK hB)<;>go_step|refine X3 84 ?_|refine X3 85 ?_|refine X3 92 ?_|refine X3 93 ?_|refine T7 98 ?_|refine Hp ?_|refine AG ?_;go_step|fail)
  all_goals (try exact AS)
  have hE9:=hS.1
  have hlaw:=HPX.out P R HL.out
  obtain ⟨X,hX⟩:∃X,Ei d H9 q P=X:=⟨_,rfl⟩
  obtain ⟨Y,hY⟩:∃Y,Ei d H9 q R=Y:=⟨_,rfl⟩
  rw [hX] at hvx hlaw
  rw [hY] at hvy hlaw
  obtain ⟨bx,ox,rfl,hcx⟩:=Je hvx (by omega)
  obtain ⟨bz,oz,rfl,hcz⟩:=Je hvy (by omega)
  have HLW:=AD hlaw
  have HCX:=AD hcx
  have HCZ:=AD hcz
  clear hS hlaw hcx hcz hX hY HL HSN HPX hv HQC
  obtain ⟨W1,hW1⟩:∃z,z=w:=⟨w,rfl⟩
  subst hW1
  have hS:=St.start W1
  repeat' (first
   | refine X1 ?_|refine LR 101 ?_|refine AG ?_;go_step|fail)
  go_loopg [102] M (fun gk kv w=>∃k:Nat,gk+k=M∧kv= .int .i64 k∧St W1 w [])
  case atStart=>exact ⟨0,rfl,rfl,hS⟩
  case round=>
   clear hS
   obtain ⟨i,hi,rfl,hS⟩:=hrel
   by_cases hlt2:i<M
   ·obtain ⟨q0,hq0⟩:∃x,i/d=x:=⟨_,rfl⟩
    obtain ⟨c0,hc0⟩:∃x,i%d=x:=⟨_,rfl⟩
    obtain ⟨p0,hp0⟩:∃x,q0*d=x:=⟨_,rfl⟩
    have hcd:c0<d:=by rw [←hc0];exact Nat.mod_lt _ (by omega)
    have hdm:p0+c0=i:=by
     have:=Nat.div_add_mod i d
     rw [hq0,hc0,Nat.mul_comm,hp0] at this
     exact this
    obtain ⟨mr,hmr⟩:∃x,LI d i=x:=⟨_,rfl⟩
    have hmre:p0+(d-1-c0)=mr:=by rw [←hmr];unfold LI;rw [hq0,hc0,hp0]
    have hmrl:mr<M:=by rw [←hmr,←HMM.out];exact PR (by omega) (by rw [HMM.out];exact hlt2)
    have hI1:(i:Int)/(d:Int)=(q0:Int):=by rw [←hq0,Int.natCast_ediv]
    have hI2:(i:Int)%(d:Int)=(c0:Int):=by rw [←hc0,Int.natCast_emod]
    have hI3:(q0:Int)*(d:Int)=(p0:Int):=by rw [←hp0,Int.natCast_mul]
    have hcell1:=HCX.out i hlt2
    have hcell2:=HCZ.out mr hmrl
    have hlw:=HLW.out i hlt2
    rw [hmr] at hlw
    clear hmr hq0 hc0 hp0
    repeat' (first
     | refine X0 ?_|refine X4 103 ?_|refine AG ?_;go_step|fail)
    all_goals (try exact AS)
    refine AP [] (fun w=>St W1 w []) AA ?_
    replace hS:=hS.drew
    focus
     refine AY 0 ?_
     refine AY 1 ?_
     refine Y6 2 ?_
     refine fB 3 [19] ?_
     refine AY 4 ?_
     refine AY 5 ?_
     refine AY 6 ?_
     (refine BA 7 (.int _ ((q0:Int))) Ai AA AA AA B5 (V.as (V.quo rfl rfl (by omega) (by omega)) (by omega)) AA ?_)
     go_step
     refine AY 8 ?_
     (refine BA 9 (.int _ ((p0:Int))) Ai AA AA AA B5 (V.as (V.mulI rfl rfl (by omega)) (by omega)) AA ?_)
     go_step
     refine AY 10 ?_
     refine Vv 11 ?_
     refine gu 12 ?_
     refine AY 13 ?_
     refine AY 14 ?_
     (refine BA 15 (.int _ ((c0:Int))) Ai AA AA AA B5 (V.as (V.rem rfl rfl (by omega) (by omega)) (by omega)) AA ?_)
     go_step
     (refine BA 16 (.int _ ((mr:Int))) Ai AA AA AA B5 (V.as (V.subI rfl rfl (by omega)) (by omega)) AA ?_)
     go_step
     refine Y6 17 ?_
     refine fB 18 [19] ?_
     refine CA 19 BZ (V.neq rfl rfl) ?_;go_step
     refine AE AA ?_ _
    all_goals
     repeat' (first|(refine AG ?_;go_step)|fail)
     all_goals (try exact AS)
     repeat' (first
      | refine X1 ?_|refine Ns 125 ?_|refine AG ?_;go_step|fail)
     all_goals (try exact AS)
     go_roundg (gk-1)
     case measure=>omega
     case rel=>exact ⟨i+1,by omega,by go_num,hS.sub AV⟩
   obtain rfl:M=i:=by omega
   repeat' (first
    | refine X8 ?_|refine X4 103 ?_|refine AG ?_;go_step|fail)
   all_goals (try exact AS)
   repeat' (first
    | refine AG ?_;go_step|fail)
   go_ret
   exact ⟨rfl,hE9.trans hS.1⟩
def DC:Array Value:=#[.slice none 0 0, .int .i64 0, .int .i64 0, .agg #[.int .i64 0, .int .i64 0, .int .i64 0, .int .i64 0, .int .i64 0, .int .i64 0, .int .i64 0, .int .i64 0, .int .i64 0, .int .i64 0, .int .i64 0, .int .i64 0, .int .i64 0, .int .i64 0, .int .i64 0, .int .i64 0, .int .i64 0, .int .i64 0, .int .i64 0, .int .i64 0, .int .i64 0, .int .i64 0, .int .i64 0, .int .i64 0, .int .i64 0, .int .i64 0, .int .i64 0, .int .i64 0, .int .i64 0, .int .i64 0, .int .i64 0, .int .i64 0, .int .i64 0, .int .i64 0, .int .i64 0, .int .i64 0, .int .i64 0, .int .i64 0, .int .i64 0, .int .i64 0, .int .i64 0, .int .i64 0, .int .i64 0, .int .i64 0, .int .i64 0, .int .i64 0, .int .i64 0, .int .i64 0, .int .i64 0, .int .i64 0, .int .i64 0, .int .i64 0, .int .i64 0, .int .i64 0, .int .i64 0, .int .i64 0, .int .i64 0, .int .i64 0, .int .i64 0, .int .i64 0, .int .i64 0, .int .i64 0, .int .i64 0, .int .i64 0]]
theorem Np:ownKnob Tryz.prog.godebug=none:=by kernel_rfl
theorem C5:laidOutB Tryz.prog=true:=by kernel_rfl
theorem No(os:Os)(args:Array Value):laidMetH Tryz.prog Rows.topMirrorRow.laid ((World.laidAll Tryz.prog os Rows.topMirrorRow.laid).forCall (fun _ _=>0) ⟨#[],args,[]⟩).memory:=by
 rw [MakeChecks.laidMetH_plain _ _ _ AA];exact laidMet_laidAll _ AA AA
theorem LF(os:Os){H:Type}(enc:TypeId×Value→H):∃places,DataW.whole enc Tryz.prog ((World.laidAll Tryz.prog os Rows.topMirrorRow.laid).forCall (fun _ _=>0) ⟨#[],DC,[]⟩).memory Tryz.f12.params.toList Rows.topMirrorSpec.vars false (DC:Array Value).toList 8=some ([.nil, .lit (.int .i64 0), .lit (.int .i64 0), .agg [.lit (.int .i64 0), .lit (.int .i64 0), .lit (.int .i64 0), .lit (.int .i64 0), .lit (.int .i64 0), .lit (.int .i64 0), .lit (.int .i64 0), .lit (.int .i64 0), .lit (.int .i64 0), .lit (.int .i64 0), .lit (.int .i64 0), .lit (.int .i64 0), .lit (.int .i64 0), .lit (.int .i64 0), .lit (.int .i64 0), .lit (.int .i64 0), .lit (.int .i64 0), .lit (.int .i64 0), .lit (.int .i64 0), .lit (.int .i64 0), .lit (.int .i64 0), .lit (.int .i64 0), .lit (.int .i64 0), .lit (.int .i64 0), .lit (.int .i64 0), .lit (.int .i64 0), .lit (.int .i64 0), .lit (.int .i64 0), .lit (.int .i64 0), .lit (.int .i64 0), .lit (.int .i64 0), .lit (.int .i64 0), .lit (.int .i64 0), .lit (.int .i64 0), .lit (.int .i64 0), .lit (.int .i64 0), .lit (.int .i64 0), .lit (.int .i64 0), .lit (.int .i64 0), .lit (.int .i64 0), .lit (.int .i64 0), .lit (.int .i64 0), .lit (.int .i64 0), .lit (.int .i64 0), .lit (.int .i64 0), .lit (.int .i64 0), .lit (.int .i64 0), .lit (.int .i64 0), .lit (.int .i64 0), .lit (.int .i64 0), .lit (.int .i64 0), .lit (.int .i64 0), .lit (.int .i64 0), .lit (.int .i64 0), .lit (.int .i64 0), .lit (.int .i64 0), .lit (.int .i64 0), .lit (.int .i64 0), .lit (.int .i64 0), .lit (.int .i64 0), .lit (.int .i64 0), .lit (.int .i64 0), .lit (.int .i64 0), .lit (.int .i64 0)]],[],places):=
 ⟨[],by kernel_rfl⟩
theorem J8(os:Os)(started:os.Started)(H:Type)(enc:TypeId×Value→H)(F:Stop.Interp):
 ReturnsInHanded {} Tryz.checked os 12 .any ((OpenSpec.ofChange Rows.topMirrorSpec).preRow enc Tryz.prog Tryz.f12 Rows.topMirrorRow.domain false Rows.topMirrorRow.laid) (((OpenSpec.ofChange Rows.topMirrorSpec).at F).post enc Tryz.prog Tryz.f12 false true false false):=by
 obtain ⟨places,hx⟩:=LF os enc
 have hok:Input.okWideB Tryz.prog ((World.laidAll Tryz.prog os Rows.topMirrorRow.laid).forCall (fun _ _=>0) ⟨#[],DC,[]⟩) 12 ⟨#[],DC,[]⟩=true:=by kernel_rfl
 refine returnsInHanded_of_row (C:=Tryz.checked) (s:=OpenSpec.ofChange Rows.topMirrorSpec) Np started AA Tryz.func12
  ⟨(World.laidAll Tryz.prog os Rows.topMirrorRow.laid),fun _ _=>0,⟨#[],DC,[]⟩,World.laidAll_os _ _ _,World.shaped_of_ZipB AA AA,(Input.okWide_of_okWideB (base:=0) hok).1,(Input.okWide_of_okWideB hok).2,
   OpenSpec.preRow_of_cond 8 hx AA (fun k hk=>by cases hk) AA (No os _),by
   simp only [Assume.holds]
   exact ⟨by simp,by simp,by simp,by simp,by simp⟩⟩ ?_
 intro W base args ds gs before hval0 hW _ hk _ hL hsh _
 have hval:∀(j:Nat) t v,Tryz.f12.params[j]? =some t→args[j]? =some v→Value.okWide Tryz.prog W .any base t v:=hval0
 have hW':=hW
 obtain ⟨p,q,hA0,hV,rfl,hfz,hnd⟩:=hW
 have hA:DataW.TrodAll enc Tryz.prog W 0 (fun _=>true) true Tryz.f12.params.toList args.toList ds p:=hA0
 rw [Tryz.params12] at hA hval
 obtain ⟨v0,vs0,d0,ds0,p0,q0,hargs,rfl,rfl,h0,r0⟩:=trodAll_cons hA
 obtain ⟨v1,vs1,d1,ds1,p1,q1,rfl,rfl,rfl,h1,r1⟩:=trodAll_cons r0
 obtain ⟨v2,vs2,d2,ds2,p2,q2,rfl,rfl,rfl,h2,r2⟩:=trodAll_cons r1
 obtain ⟨v3,vs3,d3,ds3,p3,q3,rfl,rfl,rfl,h3,r3⟩:=trodAll_cons r2
 obtain ⟨rfl,rfl,rfl⟩:=trodAll_nil r3
 obtain rfl:args=#[v0,v1,v2,v3]:=by cases args;simp_all
 obtain ⟨rfl,rfl⟩:=trodVars_none hV
 have lt0:∀x∈p0,x.block<W.heap.size:=by obtain ⟨m,hm⟩:=h0;exact DataW.trod_lt m _ _ _ hm
 have lt1:∀x∈p1,x.block<W.heap.size:=by obtain ⟨m,hm⟩:=h1;exact DataW.trod_lt m _ _ _ hm
 have lt2:∀x∈p2,x.block<W.heap.size:=by obtain ⟨m,hm⟩:=h2;exact DataW.trod_lt m _ _ _ hm
 have lt3:∀x∈p3,x.block<W.heap.size:=by obtain ⟨m,hm⟩:=h3;exact DataW.trod_lt m _ _ _ hm
 refine (L3 W (hval 0 30 v0 rfl rfl) h0 lt0 (hval 1 3 v1 rfl rfl) h1 lt1 (hval 2 3 v2 rfl rfl) h2 lt2 (hval 3 26 v3 rfl rfl) h3 lt3 hsh).mono fun e W' ⟨he,bel⟩=>?_
 subst he
 exact ⟨_,rfl,_,_,_,[],_,[],hW',trodAll_mk1 (shut_bool Tryz.underlying4 _),(trodAll_cons_mk (Below.trod C5 AA (of_decide_eq_true AA) h0 bel lt0) (trodAll_cons_mk (Below.trod C5 AA (of_decide_eq_true AA) h1 bel lt1) (trodAll_cons_mk (Below.trod C5 AA (of_decide_eq_true AA) h2 bel lt2) (trodAll_cons_mk (Below.trod C5 AA (of_decide_eq_true AA) h3 bel lt3) trodAll_mk0)))),rfl,bel.frame _,fun h=>by cases h⟩
theorem Lz:Rows.TopMirrorSaid:=
 OpenClaim.holds_of_cond 12 Tryz.f12 rfl rfl rfl rfl rfl rfl rfl ⟨rfl,rfl,rfl,rfl,rfl⟩ rfl rfl rfl rfl rfl AA Tryz.func12 AA
  (of_decide_eq_true AA) (by unfold Func.isWrapper;rw [if_neg (by decide+kernel)];exact ⟨rfl,rfl⟩)
  (fun os started H enc _ F=>by rw [OpenClaim.pre_eq_preRow];exact J8 os started H enc F)
theorem I7(f:FuncId)(fn:Func)(hf:Tryz.pinned.checked.prog.funcNamed "mezzotint/mezzotinttop.TopMirror" =some f)(hfn:Tryz.pinned.checked.prog.funcs[f]? =some fn):
 false=Tryz.pinned.checked.prog.looks []∧∀(j:Nat) t,fn.params[j]? =some t→Tryz.pinned.checked.prog.wantsStandIn t=false:=by
 obtain rfl:f=12:=Option.some.inj ((show Tryz.prog.funcNamed "mezzotint/mezzotinttop.TopMirror" =some 12 by kernel_rfl).symm.trans hf) |>.symm
 obtain rfl:fn=Tryz.f12:=(Option.some.inj (Tryz.func12.symm.trans hfn)).symm
 refine ⟨by kernel_rfl,fun j t ht=>?_⟩
 rw [Tryz.params12] at ht
 have hm:t∈([30,3,3,26]:List Nat):=by simpa using Array.mem_of_getElem? ht
 have hall:(([30,3,3,26]:List Nat).all fun u=>!Tryz.prog.wantsStandIn u)=true:=by kernel_rfl
 exact (show Tryz.prog.wantsStandIn t=false by simpa using List.all_eq_true.1 hall t hm)
theorem TopMirror_proved:Rows.TopMirrorCardSaid:=
 Claim7.holds_tied_plain_at .later [] _ _ _ _ Lz (fun _ h=>by cases h) AA (fun _ h=>by cases h) topMirror_row_tie rfl ⟨rfl,rfl⟩ AA rfl I7 AA
end Go.Proofs.YtohacgmhmbijmaaGreatDoor
