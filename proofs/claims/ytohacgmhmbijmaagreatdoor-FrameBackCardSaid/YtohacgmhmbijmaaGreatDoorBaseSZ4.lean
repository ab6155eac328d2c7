/- What the laws RescueWhole TopTold FrameBack need, part 4. -/
import Derived.Test.YtohacgmhmbijmaaGreatDoorBaseSZ1
import Derived.Test.YtohacgmhmbijmaaGreatDoorBaseSZ2
import Derived.Test.YtohacgmhmbijmaaGreatDoorBaseSZ3
import Derived.ProofKit
import Derived.OpenShut
import Derived.ChangeOld
import Derived.Deep.Slices
namespace Go.Proofs.YtohacgmhmbijmaaGreatDoor
attribute [local irreducible] Region.wanted
open Go.RowKit
set_option linter.unusedVariables false
set_option maxRecDepth 100000
set_option maxHeartbeats 8000000
theorem XQ(a b A B:Int)(ha: -A≤a∧a≤A)(hb: -B≤b∧b≤B): -(A*B)≤a*b∧a*b≤A*B:=by
 have hA:0≤A:=by omega
 have hB:0≤B:=by omega
 have h1:(a*b).natAbs≤(A*B).natAbs:=by
  rw [Int.natAbs_mul,Int.natAbs_mul];exact Nat.mul_le_mul (by omega) (by omega)
 have h2:0≤A*B:=Int.mul_nonneg hA hB
 omega
def V4(f:Nat→Int):Nat→Int
 | 0=>0
 | n+1=>V4 f n+f n
theorem cI(f:Nat→Int)(B:Int)(n:Nat)(h:∀i,i<n→ -B≤f i∧f i≤B): -(n*B)≤V4 f n∧V4 f n≤n*B:=by
 induction n with
 | zero=>simp [V4]
 | succ n ih=>
   have h1:=ih fun i hi=>h i (by omega)
   have h2:=h n (by omega)
   have e:((n+1:Nat):Int)*B=n*B+B:=by push_cast;rw [Int.add_mul,Int.one_mul]
   rw [e];simp only [V4];omega
structure ZD(K:FuncId)(cf:Int→Int→Int):Prop where
 call:∀(args:Array Value)(w:World),(callFunc K args).run Tryz.prog w= .ok (.enter K args) w
 run:∀(i k:Nat)(w:World),i<8→k<8→Calls Tryz.prog K #[.int .i64 i, .int .i64 k] w fun e w'=>e= .returned (.int .i64 (cf i k))∧Af w w'
 bd:∀i k:Int,-4096≤cf i k∧cf i k≤4096
def Zu(b:List Int)(cf:Int→Int→Int)(p k:Nat):Int:=AJ b (8*(p%8)+k)*cf (p/8:Nat) k
def gT(b:List Int)(cf:Int→Int→Int)(p:Nat):Int:=V4 (Zu b cf p) 8
def RF(b:List Int)(cf:Int→Int→Int):List Int:=V5 64 (gT b cf)
def Yu(b:List Int)(cf:Int→Int→Int)(r i k p:Nat):Int:=if p%8<r∨p%8=r∧p/8<i then gT b cf p else if p%8=r∧p/8=i then V4 (Zu b cf p) k else 0
theorem Mw(w0:World)(b:List Int)(K:FuncId)(cf:Int→Int→Int)(hK:ZD K cf)(hb:Ac b 64)(hB:∀i,-2000000000≤AJ b i∧AJ b i≤2000000000):
 Calls Tryz.prog 116 #[.agg (iv b), .func (.func K) #[] #[]] w0 fun e w=>e= .returned (.agg (iv (RF b cf)))∧Af w0 w:=by
 have hS:=St.start w0
 have HK:=AD hK
 have HB:=AD hB
 clear hK hB
 go_enter Tryz.func116,Tryz.ntmps116
 repeat' (first
  | refine X1 ?_|refine O3 2 ?_;clear hS;intro g2 w hS|refine KP 4 ?_;clear hS;intro g4 w hS|refine AH ?_;go_step|fail)
 go_loopg [8] 8 (fun gk kv w=>∃(r:Nat) (o:List Int),gk+r=8∧kv= .int .i64 r∧(∀p,p<64→AJ o p=Yu b cf r 0 0 p)∧St w0 w [arr g4 64 o,arr g2 64 b])
 case atStart=>exact ⟨0,_,rfl,rfl,fun p hp=>by rw [EL];unfold Yu;rw [if_neg (by omega)];split<;>rfl,hS.sub AV⟩
 case round=>
  clear hS
  obtain ⟨r,o,hr,rfl,ho,hS⟩:=hrel
  have HO:=AD ho
  clear ho
  by_cases hlt:r<8
  ·obtain ⟨gk1,hgk1⟩:∃x,x=gk:=⟨_,rfl⟩
   subst hgk1
   repeat' (first
    | refine X0 ?_|refine X2 ?_|refine AH ?_;go_step|fail)
   go_loopg [11] 8 (fun gk kv w=>∃(i:Nat) (o:List Int),gk+i=8∧kv= .int .i64 i∧(∀p,p<64→AJ o p=Yu b cf r i 0 p)∧St w0 w [arr g4 64 o,arr g2 64 b])
   case atStart=>exact ⟨0,o,rfl,rfl,HO.out,hS.sub AV⟩
   case round=>
    clear hS HO
    obtain ⟨i,o,hi,rfl,ho,hS⟩:=hrel
    have HO:=AD ho
    clear ho
    by_cases hlt2:i<8
    ·obtain ⟨gk2,hgk2⟩:∃x,x=gk:=⟨_,rfl⟩
     subst hgk2
     repeat' (first
      | refine X0 ?_|refine X2 ?_|refine AH ?_;go_step|fail)
     go_loopg [14] 8 (fun gk kv w=>∃(k:Nat) (o:List Int),gk+k=8∧kv= .int .i64 k∧(∀p,p<64→AJ o p=Yu b cf r i k p)∧St w0 w [arr g4 64 o,arr g2 64 b])
     case atStart=>exact ⟨0,o,rfl,rfl,HO.out,hS.sub AV⟩
     case round=>
      clear hS HO
      obtain ⟨k,o,hk,rfl,ho,hS⟩:=hrel
      have HO:=AD ho
      have hop:=ho (8*i+r) (by omega)
      clear ho
      by_cases hlt3:k<8
      ·obtain ⟨cv,hcv⟩:∃cv,cf (i:Nat) (k:Nat)=cv:=⟨_,rfl⟩
       have hc:=HK.out.bd (i:Nat) (k:Nat)
       rw [hcv] at hc
       have hbb:=HB.out (8*r+k)
       obtain ⟨m0,m1⟩:=XQ (AJ b (8*r+k)) cv 2000000000 4096 (by omega) (by omega)
       have hop2:AJ o (8*i+r)=V4 (Zu b cf (8*i+r)) k:=by
        rw [hop];unfold Yu;rw [if_neg (by omega),if_pos (by omega)]
       have hsb: -(k*8192000000000)≤V4 (Zu b cf (8*i+r)) k∧V4 (Zu b cf (8*i+r)) k≤k*8192000000000:=cI _ _ _ fun j hj=>by
        have h1:=HK.out.bd (((8*i+r)/8:Nat)) j
        have h2:=HB.out (8*((8*i+r)%8)+j)
        have:=XQ (AJ b (8*((8*i+r)%8)+j)) (cf (((8*i+r)/8:Nat)) j) 2000000000 4096 (by omega) (by omega)
        unfold Zu;omega
       have hob: -70000000000000≤AJ o (8*i+r)∧AJ o (8*i+r)≤70000000000000:=by rw [hop2];omega
       have HN:Hid (AJ o (8*i+r)+AJ b (8*r+k)*cv=V4 (Zu b cf (8*i+r)) (k+1)):=by
        unfold Hid;rw [hop2,V4,Zu,show (8*i+r)%8=r by omega,show (8*i+r)/8=i by omega,hcv]
       have HCV:=AD hcv
       clear hop hop2 hsb hcv
       repeat' (first
        | refine X0 ?_|refine X2 ?_|refine AH ?_;go_step|fail)
       refine AR [19] (fun w=>St w0 w [arr g4 64 o,arr g2 64 b]) AA ?_
       replace hS:=hS.drew
       focus
        refine Ab 0 ?_
        refine bw 1 ?_
        refine Ab 2 ?_
        refine Yt 3 ?_
        refine gR 4 ?_
        refine iK 5 [17,18,19] ?_
        refine Ab 6 ?_
        refine bw 7 ?_
        refine Ab 8 ?_
        refine Yt 9 ?_
        refine gR 10 ?_
        refine iK 11 [16,17,18,19] ?_
        refine Ab 12 ?_
        refine Ab 13 ?_
        refine Ab 14 ?_
        refine At 15 ?_
        refine BS (f:=K) rfl rfl HK.out.call (HK.out.run i k _ (by omega) (by omega)) ?_;rintro e w ⟨rfl,hE⟩;replace hS:=hS.ext hE;clear hE;rw [HCV.out];refine ⟨_,rfl,?_⟩
        refine ⟨fun _ _=>hS.sub AV,?_⟩
        refine AL ?_
        go_step
        refine bw 16 ?_
        refine Yt 17 ?_
        refine gR 18 ?_
        refine At 19 ?_
        (refine II hS 3 _ _ rfl _ _ rfl (AI rfl) _ _ AK _ (by rfl) (by omega) rfl ?_;clear hS;intro w hS)
        refine ⟨fun h=>absurd (by decide) h,?_⟩
        refine AE AA ?_ _
       repeat' (first
        | refine X1 ?_|refine X7 ?_|refine AH ?_;go_step|fail)
       go_roundg (gk-1)
       case measure=>omega
       case rel=>
        have hol:=(hS.arr (g:=g4) (n:=64) AK).2
        rw [List.length_set] at hol
        refine ⟨k+1,_,by omega,by go_num,fun p hp=>?_,hS.sub AV⟩
        rw [CS o (8*i+r) p _ (by omega)]
        split
        ·rename_i e
         subst e
         rw [HN.out];unfold Yu;rw [if_neg (by omega),if_pos (by omega)]
        rename_i e
        rw [HO.out p hp];unfold Yu
        by_cases h1:p%8<r∨p%8=r∧p/8<i
        ·rw [if_pos h1,if_pos h1]
        rw [if_neg h1,if_neg h1,if_neg (by omega),if_neg (by omega)]
      obtain rfl:k=8:=by omega
      repeat' (first
       | refine X1 ?_|refine X2 ?_|refine X7 ?_|refine AH ?_;go_step|fail)
      go_roundg (gk2-1)
      case measure=>omega
      case rel=>
       refine ⟨i+1,o,by omega,by go_num,fun p hp=>?_,hS.sub AV⟩
       rw [HO.out p hp];unfold Yu gT
       by_cases h1:p%8<r∨p%8=r∧p/8<i
       ·rw [if_pos h1,if_pos (by omega)]
       rw [if_neg h1]
       by_cases h2:p%8=r∧p/8=i
       ·rw [if_pos h2,if_pos (by omega)]
       rw [if_neg h2,if_neg (by omega)];split<;>rfl
    obtain rfl:i=8:=by omega
    repeat' (first
     | refine X1 ?_|refine X2 ?_|refine X7 ?_|refine AH ?_;go_step|fail)
    go_roundg (gk1-1)
    case measure=>omega
    case rel=>
     refine ⟨r+1,o,by omega,by go_num,fun p hp=>?_,hS.sub AV⟩
     rw [HO.out p hp];unfold Yu
     by_cases h1:p%8<r∨p%8=r∧p/8<8
     ·rw [if_pos h1,if_pos (by omega)]
     rw [if_neg h1,if_neg (by omega),if_neg (by omega)];split<;>rfl
  obtain rfl:r=8:=by omega
  have hol:=(hS.arr (g:=g4) (n:=64) AK).2
  have lo:Ac o 64:=hol
  repeat' (first
   | refine X2 ?_|refine Jt ?_|refine FX ?_;clear hS;intro w hS|refine AH ?_;go_step|fail)
  refine A9 rfl (AB.arr hS rfl (AO (n:=64) rfl) AK) rfl ?_
  refine ⟨?_,hS.1⟩
  rw [RF,←IC hol fun p hp=>by rw [HO.out p hp];unfold Yu;rw [if_pos (by omega)]]
def Vv(b:List Int):Bool:=B5 b (-40000) 40000
def gJ(cf:Int→Int→Int)(b:List Int)(p:Nat):Int:=Jf (AJ (RF (RF b cf) cf) p) 67108864
def ZC(cf:Int→Int→Int)(b:List Int):List Int:=if Vv b then V5 64 (gJ cf b) else List.replicate 64 0
def gI(b:List Int):Int:=if Vv b then 0 else 1
theorem Fu(cf:Int→Int→Int)(b:List Int):Ac (ZC cf b) 64:=by
 show (ZC cf b).length=64
 unfold ZC;split
 ·exact CJ _ _
 simp
theorem WR(b:List Int)(cf:Int→Int→Int)(hc:∀i k:Int,-4096≤cf i k∧cf i k≤4096)(B:Int)(hB:∀i,-B≤AJ b i∧AJ b i≤B)(i:Nat): -(8*(B*4096))≤AJ (RF b cf) i∧AJ (RF b cf) i≤8*(B*4096):=by
 have h0:=hB 0
 by_cases hi:i<64
 ·rw [RF,Fj _ _ _ hi,gT]
  have:=cI (Zu b cf i) (B*4096) 8 fun j hj=>XQ _ _ _ _ (hB _) (hc _ _)
  simpa using this
 rw [OJ _ _ (by rw [RF,CJ];omega)];omega
theorem f8{b:List Int}(h:Vv b=true)(i:Nat): -40000≤AJ b i∧AJ b i≤40000:=by
 by_cases hi:i<b.length
 ·exact (BG _ _ _).1 h i hi
 rw [OJ _ _ (by omega)];omega
theorem ME(n:Int)(w:World):Calls Tryz.prog 115 #[.int .i64 n] w fun e w'=>e= .returned (.bool (decide (n< -40000)||decide (40000<n)))∧w=w':=by
 go_enter Tryz.func115,Tryz.ntmps115
 repeat' (first
  | go_skip|((first|(with_reducible refine J4 ?_)|(with_reducible refine RI ?_));(first|go_big_want|go_step);go_step)|((with_reducible refine Ak _ (.pick _ _ _) ?_);first|(refine BD rfl AA ?_;go_step)|(refine A6 rfl AA ?_;go_step))|((refine AP 4 ?_);(refine CY _ (V.lss rfl rfl) AA (fun hB=>?_) (fun hB=>?_)<;>(try exact AQ)<;>go_step))|((with_reducible refine Ak _ (.binOp .gtr _ _ _ _) ?_);(refine Ap AA (V.gtr rfl rfl) ?_;go_step))|(refine AH ?_;go_step)|fail)
 all_goals (go_ret;exact ⟨Aw (by simp;omega),rfl⟩)
theorem PI(l:List Int):(l.any fun n=>decide (n< -40000)||decide (40000<n))= !Vv l:=by unfold Vv B5;simp
theorem Nd(w0:World)(b:List Int)(K:FuncId)(cf:Int→Int→Int)(hK:ZD K cf)(hb:Ac b 64):
 Calls Tryz.prog 79 #[.agg (iv b), .func (.func K) #[] #[]] w0 fun e w=>e= .returned (.tuple #[.agg (iv (ZC cf b)), .int .i64 (gI b)])∧Af w0 w:=by
 have hS:=St.start w0
 have HK:=AD hK
 clear hK
 cases hok:Vv b
 ·have HO:=AD hok
  clear hok
  go_enter Tryz.func79,Tryz.ntmps79
  repeat' (first
   | (refine Al 76 ?_);refine Am AA Tryz.call76 (BH _ _ b (hS.isl AK (by omega)) 115 #[] (fun n=>decide (n< -40000)||decide (40000<n)) Tryz.call115 (fun n=>ME n _)) ?_;rintro e w' ⟨rfl,rfl⟩;rw [PI,HO.out];refine AX ?_;go_step|refine X8 ?_|refine dY ?_|(refine AP 10 ?_);(refine Ap AA (V.build (vs:=[]) rfl (bx)) ?_;go_step)|refine O3 2 ?_;clear hS;intro g2 w hS|refine KP 4 ?_;clear hS;intro g4 w hS|refine FX ?_;clear hS;intro w hS|refine AH ?_;go_step|fail)
  refine AM (xs:=[_,_]) rfl (.cons (AB.arr hS rfl (AO (n:=64) rfl) AK) (.cons (AB.tmp rfl) (.nil))) (by simp) rfl ?_
  exact ⟨by unfold ZC gI;rw [HO.out];rfl,hS.1⟩
 have HO:=AD hok
 have HB1:=AD (f8 hok)
 have HB2:=AD (WR b cf HK.out.bd 40000 HB1.out)
 have HB3:=AD (WR (RF b cf) cf HK.out.bd (8*(40000*4096)) HB2.out)
 have hl1:Ac (RF b cf) 64:=CJ _ _
 have hl2:Ac (RF (RF b cf) cf) 64:=CJ _ _
 clear hok
 go_enter Tryz.func79,Tryz.ntmps79
 repeat' (first
  | (refine Al 76 ?_);refine Am AA Tryz.call76 (BH _ _ b (hS.isl AK (by omega)) 115 #[] (fun n=>decide (n< -40000)||decide (40000<n)) Tryz.call115 (fun n=>ME n _)) ?_;rintro e w' ⟨rfl,rfl⟩;rw [PI,HO.out];refine AX ?_;go_step|(refine AP 13 ?_);refine AG (f:=116) Tryz.call116 AA ?_;refine ⟨_,Mw _ b K cf HK.out (by assumption) (fun i=>by have:=HB1.out i;omega),?_⟩;rintro e w ⟨rfl,hE⟩;replace hS:=hS.ext hE;clear hE;refine AX ?_;go_step|(refine AP 15 ?_);refine AG (f:=116) Tryz.call116 AA ?_;refine ⟨_,Mw _ (RF b cf) K cf HK.out (by assumption) (fun i=>by have:=HB2.out i;omega),?_⟩;rintro e w ⟨rfl,hE⟩;replace hS:=hS.ext hE;clear hE;refine AX ?_;go_step|refine X0 ?_|refine dY ?_|refine O3 2 ?_;clear hS;intro g2 w hS|refine KP 4 ?_;clear hS;intro g4 w hS|refine FX ?_;clear hS;intro w hS|refine Jt ?_|refine AH ?_;go_step|fail)
 obtain ⟨al,hal⟩:∃al,RF (RF b cf) cf=al:=⟨_,rfl⟩
 rw [hal] at hS hl2⊢
 have HAL:=AD hal
 have HB4:Hid (∀i,-2305843009213693951≤AJ al i∧AJ al i≤2305843009213693951):=fun i=>by have:=HB3.out i;rw [HAL.out] at this;omega
 clear hal HB3 HB2 HB1 hl1
 go_loopg [17] 64 (fun gk kv w=>∃(i:Nat) (o:List Int),gk+i=64∧kv= .int .i64 i∧(∀p,p<i→AJ o p=gJ cf b p)∧St w0 w [arr g2 64 o,arr g4 64 (List.replicate 64 0)])
 case atStart=>exact ⟨0,_,rfl,rfl,fun p hp=>by omega,hS.sub AV⟩
 case round=>
  clear hS
  obtain ⟨i,o,hi,rfl,ho,hS⟩:=hrel
  have HO2:=AD ho
  clear ho
  have hol:=(hS.arr (g:=g2) (n:=64) AK).2
  by_cases hlt:i<64
  ·have hbb:=HB4.out i
   have HV:Hid (Jf (AJ al i) 67108864=gJ cf b i):=by unfold Hid gJ;rw [HAL.out]
   repeat' (first
    | (refine Al 64 ?_);refine Am AA Tryz.call64 (Jg (AJ al i) 67108864 _ (by omega) (by omega) (by omega) (by omega)) ?_;rintro e w' ⟨rfl,rfl⟩;rw [HV.out];refine AX ?_;go_step|refine X0 ?_|refine X2 ?_|refine Zf 20 ?_|refine WL 24 ?_|refine X7 ?_|refine WD ?_;clear hS;intro w hS|refine AH ?_;go_step|fail)
   go_roundg (gk-1)
   case measure=>omega
   case rel=>
    refine ⟨i+1,_,by omega,by go_num,fun p hp=>?_,hS.sub AV⟩
    rw [CS o i p _ (by omega)]
    split
    ·rename_i e;rw [e]
    exact HO2.out p (by have h9:p<i+1:=hp;omega)
  obtain rfl:i=64:=by omega
  have lo:Ac o 64:=hol
  have hw:o=V5 64 (gJ cf b):=IC hol fun p hp=>HO2.out p hp
  have HW:=AD hw
  clear hw
  repeat' (first
   | refine X8 ?_|refine X2 ?_|refine Jt ?_|refine FX ?_;clear hS;intro w hS|refine AH ?_;go_step|fail)
  refine AM (xs:=[_,_]) rfl (.cons (AB.arr hS rfl (AO (n:=64) rfl) AK) (.cons (AB.tmp rfl) (.nil))) (by simp) rfl ?_
  exact ⟨by unfold ZC gI;rw [HO.out,HW.out];rfl,hS.1⟩
theorem RM:ZD 80 MY:=⟨Tryz.call80,fun i k w h1 h2=>Mx w i k (by omega) (by omega),Si⟩
def fe(i k:Int):Int:=MY k i
def gW(b:List Int):List Int:=ZC MY b
def YW(b:List Int):List Int:=ZC fe b
theorem bZ(w0:World)(b:List Int)(hb:Ac b 64):Calls Tryz.prog 47 #[.agg (iv b)] w0 fun e w=>e= .returned (.tuple #[.agg (iv (gW b)), .int .i64 (gI b)])∧Af w0 w:=by
 have hS:=St.start w0
 have hl:Ac (ZC MY b) 64:=Fu _ _
 go_enter Tryz.func47,Tryz.ntmps47
 repeat' (first
  | (refine Al 79 ?_);refine Am AA Tryz.call79 (Nd _ b 80 MY RM (by assumption)) (EW hS ?_);clear hS;intro w hS;go_step|refine X8 ?_|refine X4 ?_|refine O3 1 ?_;clear hS;intro g1 w hS|refine KP 2 ?_;clear hS;intro g2 w hS|refine Jt ?_|refine FX ?_;clear hS;intro w hS|refine AH ?_;go_step|fail)
 refine AM (xs:=[_,_]) rfl (.cons (AB.arr hS rfl (AO (n:=64) rfl) AK) (.cons (AB.tmp rfl) (.nil))) (by simp) rfl ?_
 exact ⟨rfl,hS.1⟩
theorem Uz(w0:World)(i k:Int)(hu:0≤i∧i≤7)(hx:0≤k∧k≤7):Calls Tryz.prog 127 #[.int .i64 i, .int .i64 k] w0 fun e w=>e= .returned (.int .i64 (fe i k))∧Af w0 w:=by
 have hS:=St.start w0
 go_enter Tryz.func127,Tryz.ntmps127
 repeat' (first
  | (refine Al 80 ?_);refine Am AA Tryz.call80 (Mx _ k i (by omega) (by omega)) (EW hS ?_);clear hS;intro w hS;go_step|refine X0 ?_|refine AH ?_;go_step|fail)
 go_ret
 exact ⟨rfl,hS.1⟩
theorem Ug:ZD 127 fe:=⟨Tryz.call127,fun i k w h1 h2=>Uz w i k (by omega) (by omega),fun i k=>Si k i⟩
theorem Vn(w0:World)(b:List Int)(hb:Ac b 64):Calls Tryz.prog 94 #[.agg (iv b)] w0 fun e w=>e= .returned (.tuple #[.agg (iv (YW b)), .int .i64 (gI b)])∧Af w0 w:=by
 have hS:=St.start w0
 have hl:Ac (ZC fe b) 64:=Fu _ _
 go_enter Tryz.func94,Tryz.ntmps94
 repeat' (first
  | (refine Al 79 ?_);refine Am AA Tryz.call79 (Nd _ b 127 fe Ug (by assumption)) (EW hS ?_);clear hS;intro w hS;go_step|refine X8 ?_|refine X4 ?_|refine O3 1 ?_;clear hS;intro g1 w hS|refine KP 2 ?_;clear hS;intro g2 w hS|refine Jt ?_|refine FX ?_;clear hS;intro w hS|refine AH ?_;go_step|fail)
 refine AM (xs:=[_,_]) rfl (.cons (AB.arr hS rfl (AO (n:=64) rfl) AK) (.cons (AB.tmp rfl) (.nil))) (by simp) rfl ?_
 exact ⟨rfl,hS.1⟩
theorem UU(m0:Int)(m1:Int)(w:World):(Instr.build 107 #[(0, .int .i64 m0),(1, .int .i64 m1)]).run Tryz.prog w= .ok (.agg #[.int .i64 m0, .int .i64 m1]) w:=by kernel_rfl
theorem C9(w0:World)(m n:Int):Calls Tryz.prog 58 #[.agg #[.int .i64 m, .int .i64 n]] w0 fun e w'=>e= .returned (.int .i64 (if 1≤m∧m≤64∧1≤n∧n≤64 then 0 else 1))∧Af w0 w':=by
 have hS:=St.start w0
 go_enter Tryz.func58,Tryz.ntmps58
 repeat' (first
  | go_skip|((first|(with_reducible refine J4 ?_)|(with_reducible refine RI ?_));(first|go_big_want|go_step);go_step)|((with_reducible refine Ak _ (.pick _ _ _) ?_);first|(refine BD rfl AA ?_;go_step)|(refine A6 rfl AA ?_;go_step))|((refine AP 5 ?_);(refine CY _ (V.lss rfl rfl) AA (fun hB=>?_) (fun hB=>?_)<;>(try exact AQ)<;>go_step))|((refine AP 9 ?_);(refine CY _ (V.gtr rfl rfl) AA (fun hB=>?_) (fun hB=>?_)<;>(try exact AQ)<;>go_step))|((refine AP 14 ?_);(refine CY _ (V.lss rfl rfl) AA (fun hB=>?_) (fun hB=>?_)<;>(try exact AQ)<;>go_step))|((with_reducible refine Ak _ (.fieldAddr 107 _ 0) ?_);(refine Ap AA (V.fieldAddr TB rfl BK) ?_;go_step))|((with_reducible refine Ak _ (.fieldAddr 107 _ 1) ?_);(refine Ap AA (V.fieldAddr TC rfl BK) ?_;go_step))|((with_reducible refine Ak _ (.binOp .gtr _ _ _ _) ?_);(refine Ap AA (V.gtr rfl rfl) ?_;go_step))|((refine AP 1 ?_);(refine Ad ?_;apply CL (o:=⟨some 1,_,_,_,_,_⟩) hS 107 _ rfl _ rfl;clear hS;intro g1 w hS;refine AC ?_;go_step))|((with_reducible refine Ak _ (.load 3 _) ?_);(refine Ad ?_;apply AZ hS 3 _ rfl _ _ rfl (AI rfl) _;(case hp=>exact AK);(case hc=>rfl);refine AC ?_;go_step))|(refine AH ?_;go_step)|fail)
 all_goals (go_ret;exact ⟨Fm (by omega),hS.1⟩)
theorem K2(w0:World)(m n:Int)(h:1≤m∧m≤64):Calls Tryz.prog 97 #[.agg #[.int .i64 m, .int .i64 n]] w0 fun e w'=>e= .returned (.int .i64 ((m+7)/8))∧Af w0 w':=by
 have hS:=St.start w0
 go_enter Tryz.func97,Tryz.ntmps97
 repeat' (first
  | (refine AP 6 ?_);(refine Ag (.int _ (m+7)) (V.as (V.subI rfl rfl (by omega)) (by omega)) (by kernel_rfl) ?_;go_step)|refine X8 ?_|(with_reducible refine Ak _ (.fieldAddr 107 _ 0) ?_);(refine Ap AA (V.fieldAddr TB rfl BK) ?_;go_step)|refine X7 ?_|(with_reducible refine Ak _ (.binOp .quo _ _ _ _) ?_);(refine Ap AA (V.quo rfl rfl (by omega) (by omega)) ?_;go_step)|(refine AP 1 ?_);(refine Ad ?_;apply CL (o:=⟨some 1,_,_,_,_,_⟩) hS 107 _ rfl _ rfl;clear hS;intro g1 w hS;refine AC ?_;go_step)|refine ED ?_|refine AH ?_;go_step|fail)
 go_ret
 exact ⟨rfl,hS.1⟩
theorem Ig(w0:World)(m n:Int)(h:1≤m∧m≤64)(h2:1≤n∧n≤64):Calls Tryz.prog 59 #[.agg #[.int .i64 m, .int .i64 n]] w0 fun e w'=>e= .returned (.int .i64 ((m+7)/8*((n+7)/8)))∧Af w0 w':=by
 have hS:=St.start w0
 obtain ⟨k0,k1⟩:=Ee ((m+7)/8) ((n+7)/8) 8 8 (by omega) (by omega)
 go_enter Tryz.func59,Tryz.ntmps59
 repeat' (first
  | refine X8 ?_|(refine AP 1 ?_);(refine Ad ?_;apply CL (o:=⟨some 1,_,_,_,_,_⟩) hS 107 _ rfl _ rfl;clear hS;intro g1 w hS;refine AC ?_;go_step)|refine AH ?_;go_step|fail)
 refine AR [] (fun w=>St w0 w [blk g1 [.int .i64 m, .int .i64 n]]) AA ?_
 replace hS:=hS.drew
 focus
  refine ga 0 [1,7,8] ?_
  refine BX 2 BU (V.fieldAddr TC rfl BK) ?_;go_step
  refine Y5 3 [4,5,6,7,8] ?_
  refine Yt 4 ?_
  (refine Bt 5 (.int _ (n+7)) Ar AA AA AA Cp (V.as (V.subI rfl rfl (by omega)) (by omega)) AA ?_)
  go_step
  refine BX 6 BU (V.quo rfl rfl (by omega) (by omega)) ?_;go_step
  refine At 1 ?_
  refine AY (f:=97) rfl Tryz.call97 (K2 _ m n h) ?_;rintro e w ⟨rfl,hE⟩;replace hS:=hS.ext hE;clear hE;refine ⟨_,rfl,?_⟩
  refine ⟨fun _ _=>hS.sub AV,?_⟩
  refine AL ?_
  go_step
  refine bw 7 ?_
  refine Ab 8 ?_
  refine AE AA ?_ _
 all_goals
  repeat' (first
   | refine AH ?_;go_step|fail)
 all_goals (go_ret;exact ⟨rfl,hS.1⟩)
theorem IO(w0:World)(m n:Int):Calls Tryz.prog 32 #[.int .i64 m, .int .i64 n] w0 fun e w'=>e= .returned (.tuple #[.int .i64 (if 1≤m∧m≤64∧1≤n∧n≤64 then (m+7)/8*((n+7)/8) else 0), .int .i64 (if 1≤m∧m≤64∧1≤n∧n≤64 then 0 else 1)])∧Af w0 w':=by
 have hS:=St.start w0
 by_cases hok:1≤m∧m≤64∧1≤n∧n≤64
 all_goals
  (first|simp only [if_pos hok]|simp only [if_neg hok])
  go_enter Tryz.func32,Tryz.ntmps32
  repeat' (first
   | (refine Al 58 ?_);refine Am AA Tryz.call58 (C9 _ m n) ?_;rintro e w ⟨rfl,hE⟩;replace hS:=hS.ext hE;clear hE;(first|rw [if_pos hok]|rw [if_neg hok]);refine AX ?_;go_step|(refine Al 59 ?_);refine Am AA Tryz.call59 (Ig _ m n (by omega) (by omega)) (EW hS ?_);clear hS;intro w hS;go_step|refine X0 ?_|refine db 10 ?_|refine X3 ?_|refine dO 6 ?_;clear hS;intro g6 w hS|refine dP ?_;clear hS;intro w hS|refine Yq ?_|refine AH ?_;go_step|fail)
  go_ret2
  exact ⟨rfl,hS.1⟩
def Is(ac k i:Int):Int:=k/ac*8+i/8
def GO(ac k i:Int):Int:=k%ac*8+i%8
theorem Ja(w0:World)(m n k i:Int)(h:1≤m∧m≤64)(hk:0≤k∧k≤100000)(hi:0≤i∧i<64):
 Calls Tryz.prog 78 #[.agg #[.int .i64 m, .int .i64 n], .int .i64 k, .int .i64 i] w0 fun e w'=>e= .returned (.tuple #[.int .i64 (Is ((m+7)/8) k i), .int .i64 (GO ((m+7)/8) k i)])∧Af w0 w':=by
 have hS:=St.start w0
 have ha:1≤(m+7)/8:=by omega
 have ha8:(m+7)/8≤8:=by omega
 have HA:=AD (fun (w:World)=>K2 w m n h)
 generalize hac:(m+7)/8=ac at*
 clear hac
 have q1:0≤k/ac:=Int.ediv_nonneg hk.1 (by omega)
 have q2:k/ac≤k:=Int.ediv_le_self ac hk.1
 have q3:=Int.emod_nonneg k (b:=ac) (by omega)
 have q4:=Int.emod_lt_of_pos k (b:=ac) (by omega)
 go_enter Tryz.func78,Tryz.ntmps78
 repeat' (first
  | refine X8 ?_|(refine AP 3 ?_);(refine Ad ?_;apply CL (o:=⟨some 3,_,_,_,_,_⟩) hS 107 _ rfl _ rfl;clear hS;intro g3 w hS;refine AC ?_;go_step)|refine AH ?_;go_step|fail)
 refine AR [10] (fun w=>St w0 w [blk g3 [.int .i64 m, .int .i64 n]]) AA ?_
 replace hS:=hS.drew
 focus
  refine Ab 0 ?_
  refine ga 1 [2,3,4,7,10,11,12,15,16,17] ?_
  refine Ab 5 ?_
  refine BX 6 BU (V.quo rfl rfl (by omega) (by omega)) ?_;go_step
  refine Ab 8 ?_
  refine ga 9 [10,11,12,15,16,17] ?_
  refine Ab 13 ?_
  refine BX 14 BU (V.rem rfl rfl (by omega) (by omega)) ?_;go_step
  refine At 2 ?_
  refine AY (f:=97) rfl Tryz.call97 (HA.out _) ?_;rintro e w ⟨rfl,hE⟩;replace hS:=hS.ext hE;clear hE;refine ⟨_,rfl,?_⟩
  refine ⟨fun _ _=>hS.sub AV,?_⟩
  refine AL ?_
  go_step
  refine BX 3 BU (V.quo rfl rfl (by omega) (by omega)) ?_;go_step
  refine bw 4 ?_
  refine Yt 7 ?_
  refine At 10 ?_
  refine AY (f:=97) rfl Tryz.call97 (HA.out _) ?_;rintro e w ⟨rfl,hE⟩;replace hS:=hS.ext hE;clear hE;refine ⟨_,rfl,?_⟩
  refine ⟨fun h=>absurd (by decide) h,?_⟩
  refine AL ?_
  go_step
  refine BX 11 BU (V.rem rfl rfl (by omega) (by omega)) ?_;go_step
  refine bw 12 ?_
  refine Yt 15 ?_
  refine Ab 16 ?_
  refine Ab 17 ?_
  refine AE AA ?_ _
 all_goals
  repeat' (first
   | refine AH ?_;go_step|fail)
 all_goals (go_ret2;exact ⟨rfl,hS.1⟩)
def Ai(m n:Int):Nat:=(((m+7)/8)*((n+7)/8)).toNat
def Yz(l:List Int):Bool:=B5 l 0 255
def Ch(l:List Int)(n:Nat)(m h:Int):Int:=if 1≤m∧m≤64∧1≤h∧h≤64 then if (n:Int)=m*h then if Yz l then 0 else 1 else 4 else 1
def PY(l:List Int)(m h:Int)(x:Nat):Int:=AJ l ((min (Is ((m+7)/8) (x/64:Nat) (x%64:Nat)) (h-1))*m+min (GO ((m+7)/8) (x/64:Nat) (x%64:Nat)) (m-1)).toNat-128
def PX(l:List Int)(m h:Int):List Int:=V5 (Ai m h*64) (PY l m h)
theorem Wj(n:Int)(w:World):Calls Tryz.prog 77 #[.int .i64 n] w fun e w'=>e= .returned (.bool (decide (n<0)||decide (255<n)))∧w=w':=by
 go_enter Tryz.func77,Tryz.ntmps77
 repeat' (first
  | go_skip|((first|(with_reducible refine J4 ?_)|(with_reducible refine RI ?_));(first|go_big_want|go_step);go_step)|((with_reducible refine Ak _ (.pick _ _ _) ?_);first|(refine BD rfl AA ?_;go_step)|(refine A6 rfl AA ?_;go_step))|((refine AP 4 ?_);(refine CY _ (V.lss rfl rfl) AA (fun hB=>?_) (fun hB=>?_)<;>(try exact AQ)<;>go_step))|((with_reducible refine Ak _ (.binOp .gtr _ _ _ _) ?_);(refine Ap AA (V.gtr rfl rfl) ?_;go_step))|(refine AH ?_;go_step)|fail)
 all_goals (go_ret;exact ⟨Aw (by simp;omega),rfl⟩)
def O6(w0:World)(l:List Int)(n:Nat)(m h:Int)(e:Ending)(w:World):Prop:=
 ∃ad c,e= .returned (.tuple #[.slice ad (if Ch l n m h=0 then Ai m h else 0) c, .int .i64 (Ch l n m h)])∧St w0 w [own 26 64 ad (if Ch l n m h=0 then Ai m h else 0) c ((if Ch l n m h=0 then PX l m h else []).map (Value.int .i64))]
theorem RQ{w0 w:World}{l:List Int}{n:Nat}{m h:Int}(E:Int)(h1:Ch l n m h=E)(h2:E≠0)(hE:Af w0 w):O6 w0 l n m h (.returned (.tuple #[.slice none 0 0, .int .i64 E])) w:=by
 refine ⟨none,0,?_,?_⟩
 ·rw [h1,if_neg h2]
 rw [if_neg (by rw [h1];exact h2),if_neg (by rw [h1];exact h2)];exact (St.of_ext hE).nil _ _
theorem Sf(l:List Int):(l.any fun n=>decide (n<0)||decide (255<n))= !Yz l:=by unfold Yz B5;simp
theorem Lp(m h:Int)(hm:1≤m∧m≤64)(hh:1≤h∧h≤64)(k i:Int)(hk:0≤k)(hi:0≤i∧i<64):
 0≤Is ((m+7)/8) k i∧0≤GO ((m+7)/8) k i∧GO ((m+7)/8) k i<64∧0≤(min (Is ((m+7)/8) k i) (h-1))*m∧(min (Is ((m+7)/8) k i) (h-1))*m+min (GO ((m+7)/8) k i) (m-1)<m*h:=by
 have q1:0≤k/((m+7)/8):=Int.ediv_nonneg hk (by omega)
 have q3:=Int.emod_nonneg k (b:=(m+7)/8) (by omega)
 have q4:=Int.emod_lt_of_pos k (b:=(m+7)/8) (by omega)
 unfold Is GO
 generalize k/((m+7)/8)=a at*
 generalize k%((m+7)/8)=b at*
 have r0:0≤min (a*8+i/8) (h-1):=by omega
 have r1:min (a*8+i/8) (h-1)≤h-1:=by omega
 generalize min (a*8+i/8) (h-1)=r at*
 have t1:0≤r*m:=Int.mul_nonneg r0 (by omega)
 have t2:r*m≤(h-1)*m:=Int.mul_le_mul_of_nonneg_right r1 (by omega)
 have t3:(h-1)*m=m*h-m:=by rw [Int.sub_mul,Int.one_mul,Int.mul_comm h m]
 refine ⟨by omega,by omega,by omega,by omega,by omega⟩
theorem Nw(w0:World)(ad:Option Addr)(n c:Nat)(l:List Int)(m h:Int)(hm64: -9223372036854775808≤m∧m≤9223372036854775807)(hn:n≤9223372036854775807)(hv:Sl w0 1 (.slice ad n c) n (l.map (Value.int .i64)))(hcl:(callFunc 77:Array Value→Sem Next)=callFunc 77):
 Calls Tryz.prog 46 #[.slice ad n c, .int .i64 m, .int .i64 h] w0 (O6 w0 l n m h):=by
 have hl:l.length=n:=by have:=hv.1;simpa using this
 have hS:=St.start w0
 have HC:=AD (fun (w:World)(hE:Af w0 w)=>BH w (.slice ad n c) l (by unfold O9;rw [hl];exact hv.ext hE) 77 #[] (fun n=>decide (n<0)||decide (255<n)) Tryz.call77 (fun n=>Wj n w))
 have HL:=AD hl
 clear hl hcl
 by_cases hok:1≤m∧m≤64∧1≤h∧h≤64
 case neg=>
  have HE:=AD (show Ch l n m h=1 by rw [Ch,if_neg hok])
  go_enter Tryz.func46,Tryz.ntmps46
  repeat' (first
   | (refine Al 58 ?_);refine Am AA Tryz.call58 (C9 _ m h) ?_;rintro e w ⟨rfl,hE⟩;replace hS:=hS.ext hE;clear hE;rw [if_neg hok];refine AX ?_;go_step|refine X0 ?_|refine db 17 ?_|refine X3 ?_|refine dO 8 ?_;clear hS;intro g8 w hS|refine dP ?_;clear hS;intro w hS|refine Yq ?_|refine AH ?_;go_step|fail)
  go_ret2
  exact RQ 1 HE.out (by decide) hS.1
 obtain ⟨k0,k1⟩:=Ee m h 64 64 (by omega) (by omega)
 by_cases hnm:(n:Int)=m*h
 case neg=>
  have HE:=AD (show Ch l n m h=4 by rw [Ch,if_pos hok,if_neg hnm])
  go_enter Tryz.func46,Tryz.ntmps46
  repeat' (first
   | (refine Al 58 ?_);refine Am AA Tryz.call58 (C9 _ m h) ?_;rintro e w ⟨rfl,hE⟩;replace hS:=hS.ext hE;clear hE;rw [if_pos hok];refine AX ?_;go_step|refine X0 ?_|refine db 17 ?_|refine X3 ?_|refine UQ ?_|refine WE ?_|refine KR ?_|refine dO 8 ?_;clear hS;intro g8 w hS|refine dP ?_;clear hS;intro w hS|refine Yq ?_|refine AH ?_;go_step|fail)
  go_ret2
  exact RQ 4 HE.out (by decide) hS.1
 replace hn:n≤100000:=by omega
 by_cases hs:Yz l=true
 case neg=>
  have hs':(!Yz l)=true:=by simpa using hs
  have HE:=AD (show Ch l n m h=1 by rw [Ch,if_pos hok,if_pos hnm,if_neg hs])
  go_enter Tryz.func46,Tryz.ntmps46
  repeat' (first
   | (refine Al 58 ?_);refine Am AA Tryz.call58 (C9 _ m h) ?_;rintro e w ⟨rfl,hE⟩;replace hS:=hS.ext hE;clear hE;rw [if_pos hok];refine AX ?_;go_step|(refine Al 76 ?_);refine Am AA Tryz.call76 (HC.out _ hS.1) ?_;rintro e w' ⟨rfl,rfl⟩;rw [Sf,hs'];refine AX ?_;go_step|refine X0 ?_|refine db 17 ?_|refine X3 ?_|refine UQ ?_|refine WE ?_|refine KR ?_|refine dO 8 ?_;clear hS;intro g8 w hS|refine dP ?_;clear hS;intro w hS|refine Yq ?_|refine AH ?_;go_step|fail)
  go_ret2
  exact RQ 1 HE.out (by decide) hS.1
 have hs':(!Yz l)=false:=by simpa using hs
 have HE:=AD (show Ch l n m h=0 by rw [Ch,if_pos hok,if_pos hnm,if_pos hs])
 have HS:=AD hs
 obtain ⟨kk0,kk1⟩:=Ee ((m+7)/8) ((h+7)/8) 8 8 (by omega) (by omega)
 have kk2:0≤((m+7)/8)*((h+7)/8):=Int.mul_nonneg (by omega) (by omega)
 obtain ⟨K,hK⟩:∃K,Ai m h=K:=⟨_,rfl⟩
 have hK2:(m+7)/8*((h+7)/8)=(K:Int):=by rw [←hK,Ai];omega
 have hK3:K≤64:=by omega
 have HB:Hid (∀x:Nat,x<K*64→ -9223372036854775000≤PY l m h x∧PY l m h x≤9223372036854775000):=fun x hx=>by
  unfold PY
  have p0:=Lp m h ⟨hok.1,hok.2.1⟩ hok.2.2 (x/64:Nat) (x%64:Nat) (by omega) (by omega)
  have:=(BG l 0 255).1 hs ((min (Is ((m+7)/8) (x/64:Nat) (x%64:Nat)) (h-1))*m+min (GO ((m+7)/8) (x/64:Nat) (x%64:Nat)) (m-1)).toNat (by rw [HL.out];omega)
  omega
 have HK:=AD hK
 clear hs hs' hK kk0 kk1 kk2
 obtain ⟨b0,off,rfl,hcell⟩:∃b off,ad=some ⟨b,off,none⟩∧∀k,k<n→w0.cell? ⟨b,off+k,none⟩=some (.int .i64 (AJ l k)):=by
  have h1:0<m*h:=Int.mul_pos (by omega) (by omega)
  have hvI:O9 w0 (.slice ad n c) l:=by unfold O9;rw [HL.out];exact hv
  obtain ⟨a',c',e1,_,_,hI⟩:=hvI.open
  cases e1
  obtain ⟨b,off,e2,h3⟩:=hI 0 (by rw [HL.out];omega)
  exact ⟨b,off,e2,fun k hk=>h3 k (by rw [HL.out];exact hk)⟩
 have HCell:=AD hcell
 clear hcell
 go_enter Tryz.func46,Tryz.ntmps46
 repeat' (first
  | (refine Al 58 ?_);refine Am AA Tryz.call58 (C9 _ m h) ?_;rintro e w ⟨rfl,hE⟩;replace hS:=hS.ext hE;clear hE;rw [if_pos hok];refine AX ?_;go_step|(refine Al 76 ?_);refine Am AA Tryz.call76 (HC.out _ hS.1) ?_;rintro e w' ⟨rfl,rfl⟩;rw [Sf,HS.out];refine AX ?_;go_step|(refine Al 59 ?_);refine Am AA Tryz.call59 (Ig _ m h (by omega) (by omega)) ?_;rintro e w ⟨rfl,hE⟩;replace hS:=hS.ext hE;clear hE;rw [hK2];refine AX ?_;go_step|refine X0 ?_|refine db 17 ?_|refine X3 ?_|refine UQ ?_|refine WE ?_|refine KR ?_|refine Vw ?_|refine dO 8 ?_;clear hS;intro g8 w hS|refine dP ?_;clear hS;intro w hS|refine Yq ?_|refine ZM 36 ?_;clear hS;intro g36 w hS|refine AH ?_;go_step|fail)
 go_loopg [39] K (fun gk kv w=>∃(k:Nat) (o:List Int),gk+k=K∧kv= .int .i64 k∧(∀x,x<k*64→AJ o x=PY l m h x)∧St w0 w [own 26 64 (some ⟨g36,0,none⟩) K K (o.map (Value.int .i64)),blk g8 [.int .i64 m, .int .i64 h]])
 case atStart=>exact ⟨0,_,rfl,rfl,fun x hx=>by omega,hS.sub AV⟩
 case round=>
  clear hS
  obtain ⟨k,o,hk,rfl,ho,hS⟩:=hrel
  have HO:=AD ho
  clear ho
  by_cases hlt:k<K
  ·obtain ⟨gk1,hgk1⟩:∃x,x=gk:=⟨_,rfl⟩
   subst hgk1
   repeat' (first
    | refine X0 ?_|refine X2 ?_|refine AH ?_;go_step|fail)
   go_loopg [42] 64 (fun gk kv w=>∃(i:Nat) (o:List Int),gk+i=64∧kv= .int .i64 i∧(∀x,x<k*64+i→AJ o x=PY l m h x)∧St w0 w [own 26 64 (some ⟨g36,0,none⟩) K K (o.map (Value.int .i64)),blk g8 [.int .i64 m, .int .i64 h]])
   case atStart=>exact ⟨0,o,rfl,rfl,HO.out,hS.sub AV⟩
   case round=>
    clear hS HO
    obtain ⟨i,o,hi,rfl,ho,hS⟩:=hrel
    have HO:=AD ho
    clear ho
    by_cases hlt2:i<64
    ·obtain ⟨R,hR⟩:∃R,Is ((m+7)/8) (k:Int) (i:Int)=R:=⟨_,rfl⟩
     obtain ⟨C,hC⟩:∃C,GO ((m+7)/8) (k:Int) (i:Int)=C:=⟨_,rfl⟩
     obtain ⟨p0,p1,p2,p3,p4⟩:=Lp m h ⟨hok.1,hok.2.1⟩ hok.2.2 (k:Int) (i:Int) (by omega) (by omega)
     have hV:PY l m h (k*64+i)=AJ l ((min R (h-1))*m+min C (m-1)).toNat-128:=by
      unfold PY
      rw [show (k*64+i)/64=k by omega,show (k*64+i)%64=i by omega,hR,hC]
     rw [hR] at p0 p3 p4
     rw [hC] at p1 p2 p4
     have HR:=AD hR
     have HCc:=AD hC
     obtain ⟨q,hq⟩:∃q:Nat,(min R (h-1))*m+min C (m-1)=(q:Int):=⟨((min R (h-1))*m+min C (m-1)).toNat,by omega⟩
     rw [hq,Int.toNat_natCast] at hV
     have hc:=HCell.out q (by omega)
     have hx: -9223372036854775000≤AJ l q∧AJ l q≤9223372036854775000:=by
      have:=(BG l 0 255).1 (by have:=HS.out;simpa [Yz] using this) q (by rw [HL.out];omega)
      omega
     have HV:=AD hV
     clear hR hC hV
     repeat' (first
      | (refine Al 78 ?_);refine Am AA Tryz.call78 (Ja _ m h (k:Int) (i:Int) (by omega) (by omega) (by omega)) ?_;rintro e w ⟨rfl,hE⟩;replace hS:=hS.ext hE;clear hE;rw [HR.out,HCc.out];refine AX ?_;go_step|refine X0 ?_|refine X2 ?_|refine X4 ?_|refine Yq ?_|refine AH ?_;go_step|fail)
     refine AR [20] (fun w=>St w0 w []) AA ?_
     replace hS:=hS.drew
     focus
      refine Ab 0 ?_
      refine Ab 1 ?_
      refine Ab 2 ?_
      refine Ab 3 ?_
      refine Ab 4 ?_
      refine Ab 5 ?_
      refine BX 6 BU (V.subI rfl rfl (by omega)) ?_;go_step
      refine BX 7 BU (V.min rfl rfl) ?_;go_step
      refine Ab 8 ?_
      refine bw 9 ?_
      refine Ab 10 ?_
      refine Ab 11 ?_
      refine BX 12 BU (V.subI rfl rfl (by omega)) ?_;go_step
      refine BX 13 BU (V.min rfl rfl) ?_;go_step
      (refine Bt 14 (.int _ ((q:Int))) Ar AA AA AA Cp (V.as (V.addI rfl rfl (by omega)) (by omega)) AA ?_)
      go_step
      refine Y7 15 ?_
      refine eu 16 [17,19,20] ?_
      refine BX 17 BU (V.subI rfl rfl (by omega)) ?_;go_step
      refine BX 18 BU (V.indexSl Tryz.underlying42 Id rfl rfl BJ (by omega) rfl BK) ?_;go_step
      refine gR 19 ?_
      refine At 20 ?_
      refine eo ?_;clear hS;intro w hS
      refine AE AA ?_ _
     repeat' (first
      | refine X1 ?_|refine X7 ?_|refine AH ?_;go_step|fail)
     go_roundg (gk-1)
     case measure=>omega
     case rel=>
      have hol:=hS.ownLen (e:=26) AK
      rw [List.length_map,List.length_set] at hol
      refine ⟨i+1,_,by omega,by go_num,fun x hx=>?_,hS.sub AV⟩
      rw [CS o (k*64+i) x _ (by omega)]
      split
      ·rename_i e;rw [←e,HV.out]
      exact HO.out x (by omega)
    obtain rfl:i=64:=by omega
    repeat' (first
     | refine X1 ?_|refine X2 ?_|refine X7 ?_|refine AH ?_;go_step|fail)
    go_roundg (gk1-1)
    case measure=>omega
    case rel=>exact ⟨k+1,o,by omega,by go_num,fun x hx=>HO.out x (by have h9:x<(k+1)*64:=hx;omega),hS.sub AV⟩
  obtain rfl:k=K:=by omega
  have hol:=hS.ownLen (e:=26) AK
  rw [List.length_map] at hol
  repeat' (first
   | refine X0 ?_|refine X2 ?_|refine AH ?_;go_step|fail)
  go_ret2
  refine ⟨some ⟨g36,0,none⟩,k,?_,?_⟩
  ·rw [HE.out,if_pos rfl,HK.out];rfl
  rw [if_pos HE.out,if_pos HE.out,HK.out,PX,HK.out,←IC hol fun x hx=>HO.out x hx]
  exact hS.sub AV
def Ci(l:List Int):Bool:=B5 l (-40000) 40000
def Hv(n:Nat)(m h:Int):Int:=if 1≤m∧m≤64∧1≤h∧h≤64 then if n=Ai m h then 0 else 4 else 1
def Ea(l:List Int)(n:Nat)(m h:Int):Int:=if 1≤m∧m≤64∧1≤h∧h≤64 then if n=Ai m h then if Ci l then 0 else 1 else 4 else 1
def Fz(m:Int)(x:Nat):Int:=(x:Int)/m/8*((m+7)/8)+(x:Int)%m/8
def KU(m:Int)(x:Nat):Int:=(x:Int)/m%8*8+(x:Int)%m%8
def LV(l:List Int)(m:Int)(x:Nat):Int:=min (max (AJ l (Fz m x*64+KU m x).toNat+128) 0) 255
def Fw(l:List Int)(m h:Int):List Int:=V5 (m*h).toNat (LV l m)
theorem aO(m k i:Int)(hm:1≤m∧m≤64)(hk:0≤k)(hi:0≤i∧i<64)(x:Nat)(hx:(x:Int)=Is ((m+7)/8) k i*m+GO ((m+7)/8) k i)(hc:GO ((m+7)/8) k i<m):Fz m x=k∧KU m x=i:=by
 have q1:0≤k/((m+7)/8):=Int.ediv_nonneg hk (by omega)
 have q3:=Int.emod_nonneg k (b:=(m+7)/8) (by omega)
 have q5:=Int.mul_ediv_add_emod k ((m+7)/8)
 have e1:(x:Int)/m=Is ((m+7)/8) k i:=by
  rw [hx,Int.add_comm,Int.add_mul_ediv_right _ _ (by omega),Int.ediv_eq_zero_of_lt (by unfold GO;omega) hc];omega
 have e2:(x:Int)%m=GO ((m+7)/8) k i:=by
  rw [hx,Int.add_comm,Int.add_mul_emod_self_right,Int.emod_eq_of_lt (by unfold GO;omega) hc]
 unfold Fz KU
 rw [e1,e2]
 unfold Is GO
 rw [show (k/((m+7)/8)*8+i/8)/8=k/((m+7)/8) by omega,show (k%((m+7)/8)*8+i%8)/8=k%((m+7)/8) by omega,Int.mul_comm (k/((m+7)/8))]
 exact ⟨q5,by omega⟩
theorem XG(m k i:Int)(hm:1≤m∧m≤64)(x:Nat)(hk:Fz m x=k)(hi:KU m x=i):Is ((m+7)/8) k i=(x:Int)/m∧GO ((m+7)/8) k i=(x:Int)%m:=by
 subst hk;subst hi
 have q3:=Int.emod_nonneg (x:Int) (b:=m) (by omega)
 have q4:=Int.emod_lt_of_pos (x:Int) (b:=m) (by omega)
 have q1:0≤(x:Int)/m:=Int.ediv_nonneg (by omega) (by omega)
 have e1:Fz m x/((m+7)/8)=(x:Int)/m/8:=by
  unfold Fz
  rw [Int.add_comm,Int.add_mul_ediv_right _ _ (by omega),Int.ediv_eq_zero_of_lt (by omega) (by omega)];omega
 have e2:Fz m x%((m+7)/8)=(x:Int)%m/8:=by
  unfold Fz
  rw [Int.add_comm,Int.add_mul_emod_self_right,Int.emod_eq_of_lt (by omega) (by omega)]
 unfold Is GO
 rw [e1,e2]
 unfold KU
 exact ⟨by omega,by omega⟩
theorem Ie(m h:Int)(hm:1≤m∧m≤64)(hh:1≤h∧h≤64)(x:Nat)(hx:(x:Int)<m*h):0≤Fz m x∧Fz m x<Ai m h∧0≤KU m x∧KU m x<64∧(x:Int)/m<h∧(x:Int)%m<m:=by
 have q3:=Int.emod_nonneg (x:Int) (b:=m) (by omega)
 have q4:=Int.emod_lt_of_pos (x:Int) (b:=m) (by omega)
 have q1:0≤(x:Int)/m:=Int.ediv_nonneg (by omega) (by omega)
 have q2:(x:Int)/m<h:=Int.ediv_lt_of_lt_mul (by omega) (by rw [Int.mul_comm];exact hx)
 have r1:(x:Int)/m/8≤(h+7)/8-1:=by omega
 have r2:(x:Int)%m/8<(m+7)/8:=by omega
 have r3:(x:Int)/m/8*((m+7)/8)≤((h+7)/8-1)*((m+7)/8):=Int.mul_le_mul_of_nonneg_right r1 (by omega)
 have r4:((h+7)/8-1)*((m+7)/8)=(m+7)/8*((h+7)/8)-(m+7)/8:=by rw [Int.sub_mul,Int.one_mul,Int.mul_comm]
 have r5:0≤(x:Int)/m/8*((m+7)/8):=Int.mul_nonneg (by omega) (by omega)
 unfold Fz KU Ai
 refine ⟨by omega,by omega,by omega,by omega,q2,q4⟩
theorem NE(n:Int)(w:World):Calls Tryz.prog 128 #[.int .i64 n] w fun e w'=>e= .returned (.bool (decide (n< -40000)||decide (40000<n)))∧w=w':=by
 go_enter Tryz.func128,Tryz.ntmps128
 repeat' (first
  | go_skip|((first|(with_reducible refine J4 ?_)|(with_reducible refine RI ?_));(first|go_big_want|go_step);go_step)|((with_reducible refine Ak _ (.pick _ _ _) ?_);first|(refine BD rfl AA ?_;go_step)|(refine A6 rfl AA ?_;go_step))|((refine AP 4 ?_);(refine CY _ (V.lss rfl rfl) AA (fun hB=>?_) (fun hB=>?_)<;>(try exact AQ)<;>go_step))|((with_reducible refine Ak _ (.binOp .gtr _ _ _ _) ?_);(refine Ap AA (V.gtr rfl rfl) ?_;go_step))|(refine AH ?_;go_step)|fail)
 all_goals (go_ret;exact ⟨Aw (by simp;omega),rfl⟩)
theorem K3(l:List Int):(l.any fun n=>decide (n< -40000)||decide (40000<n))= !Ci l:=by unfold Ci B5;simp
def Dh(E0:Int)(l:List Int)(k:Nat):Int:=if E0=0 then if Ci (l.take (k*64)) then 0 else 1 else E0
theorem Ez(l:List Int)(k n:Nat)(hl:l.length=n*64)(hk:k<n):Ci (l.take ((k+1)*64))=(Ci (l.take (k*64))&&Ci (Bp l 64 k)):=by
 have:l.take ((k+1)*64)=l.take (k*64)++Bp l 64 k:=by
  unfold Bp;rw [←List.take_add];congr 1;omega
 rw [this];unfold Ci B5;simp
theorem P2{E0:Int}{l:List Int}{k n:Nat}(h:0=Dh E0 l k)(hl:l.length=n*64)(hk:k<n)(hs:Ci (Bp l 64 k)=true):0=Dh E0 l (k+1):=by
 unfold Dh at*
 rw [Ez l k n hl hk,hs,Bool.and_true]
 exact h
theorem Rk{E0:Int}{l:List Int}{k n:Nat}(h:0=Dh E0 l k)(hl:l.length=n*64)(hk:k<n)(hs:Ci (Bp l 64 k)=false):1=Dh E0 l (k+1):=by
 unfold Dh at*
 rw [Ez l k n hl hk,hs,Bool.and_false]
 split at h
 ·rename_i h0;rw [if_pos h0];rfl
 rename_i h0;exact absurd h.symm h0
theorem P3{E0 E:Int}{l:List Int}{k n:Nat}(h:E=Dh E0 l k)(h0:E≠0)(hl:l.length=n*64)(hk:k<n):E=Dh E0 l (k+1):=by
 unfold Dh at*
 rw [Ez l k n hl hk]
 split at h
 ·rename_i h1
  rw [if_pos h1]
  split at h
  ·exact absurd h h0
  rename_i h2;rw [h];rw [if_neg];simp [h2]
 rename_i h1;rw [if_neg h1];exact h
theorem Rl{l:List Int}{n:Nat}{m h:Int}(h0:Ea l n m h=0):(1≤m∧m≤64∧1≤h∧h≤64)∧n=Ai m h∧Ci l=true:=by
 unfold Ea at h0
 split at h0
 ·rename_i h1
  split at h0
  ·rename_i h2
   split at h0
   ·rename_i h3;exact ⟨h1,h2,h3⟩
   exact absurd h0 (by decide)
  exact absurd h0 (by decide)
 exact absurd h0 (by decide)
def Ga(w0:World)(l:List Int)(n:Nat)(m h:Int)(e:Ending)(w:World):Prop:=
 ∃ad c,e= .returned (.tuple #[.slice ad (if Ea l n m h=0 then (m*h).toNat else 0) c, .int .i64 (Ea l n m h)])∧St w0 w [own 3 1 ad (if Ea l n m h=0 then (m*h).toNat else 0) c ((if Ea l n m h=0 then Fw l m h else []).map (Value.int .i64))]
theorem aN{w0 w:World}{l:List Int}{n:Nat}{m h:Int}(E:Int)(h1:Ea l n m h=E)(h2:E≠0)(hE:Af w0 w):Ga w0 l n m h (.returned (.tuple #[.slice none 0 0, .int .i64 E])) w:=by
 refine ⟨none,0,?_,?_⟩
 ·rw [h1,if_neg h2]
 rw [if_neg (by rw [h1];exact h2),if_neg (by rw [h1];exact h2)];exact (St.of_ext hE).nil _ _
theorem XF(w0:World)(ad:Option Addr)(n c:Nat)(l:List Int)(m h:Int)(hm64: -9223372036854775808≤m∧m≤9223372036854775807)(hn:n≤9223372036854775807)(hv:Sl w0 64 (.slice ad n c) n (l.map (Value.int .i64)))(hbad:Ea l n m h≠0):
 Calls Tryz.prog 95 #[.slice ad n c, .int .i64 m, .int .i64 h] w0 (Ga w0 l n m h):=by
 have hl:l.length=n*64:=by have:=hv.1;simpa using this
 have hS:=St.start w0
 have HL:=AD hl
 clear hl
 have hEx:Ea l n m h=Dh (Hv n m h) l n:=by
  unfold Ea Dh Hv
  rw [show l.take (n*64)=l by rw [←HL.out];exact List.take_length]
  by_cases h1:1≤m∧m≤64∧1≤h∧h≤64
  ·simp only [if_pos h1]
   by_cases h2:n=Ai m h
   ·simp only [if_pos h2,if_true]
   simp only [if_neg h2];rfl
  simp only [if_neg h1];rfl
 have HEx:=AD hEx
 clear hEx
 obtain ⟨A,hA⟩:∃A:Int,(if 1≤m∧m≤64∧1≤h∧h≤64 then 0 else 1)=A:=⟨_,rfl⟩
 have HA:=AD hA
 have hA3:A=0∧Hv n m h=0∧(1≤m∧m≤64∧1≤h∧h≤64)∧n=Ai m h∨A=0∧Hv n m h=4∧(1≤m∧m≤64∧1≤h∧h≤64)∧n≠Ai m h∨A=1∧Hv n m h=1∧True∧True:=by
  unfold Hv
  by_cases h1:1≤m∧m≤64∧1≤h∧h≤64
  ·rw [if_pos h1] at hA
   rw [if_pos h1]
   by_cases h2:n=Ai m h
   ·rw [if_pos h2];exact .inl ⟨hA.symm,rfl,h1,h2⟩
   rw [if_neg h2];exact .inr (.inl ⟨hA.symm,rfl,h1,h2⟩)
  rw [if_neg h1] at hA
  rw [if_neg h1];exact .inr (.inr ⟨hA.symm,rfl,trivial,trivial⟩)
 clear hA
 have hK:∀(h1:1≤m∧m≤64∧1≤h∧h≤64),(m+7)/8*((h+7)/8)=((Ai m h:Nat):Int)∧Ai m h≤64:=fun h1=>by
  obtain ⟨kk0,kk1⟩:=Ee ((m+7)/8) ((h+7)/8) 8 8 (by omega) (by omega)
  have kk2:0≤((m+7)/8)*((h+7)/8):=Int.mul_nonneg (by omega) (by omega)
  unfold Ai;omega
 rcases hA3 with ⟨a1,a2,a3,a4⟩|⟨a1,a2,a3,a4⟩|⟨a1,a2,a3,a4⟩
 all_goals
  try (have hKK:=hK a3;obtain ⟨hK1,hK2⟩:=hKK)
  clear hK
  subst a1
  have H0:=AD a2
  clear a2
  go_enter Tryz.func95,Tryz.ntmps95
  repeat' (first
   | (refine Al 58 ?_);refine Am AA Tryz.call58 (C9 _ m h) ?_;rintro e w ⟨rfl,hE⟩;replace hS:=hS.ext hE;clear hE;rw [HA.out];refine AX ?_;go_step|(refine Al 59 ?_);refine Am AA Tryz.call59 (Ig _ m h (by omega) (by omega)) ?_;rintro e w ⟨rfl,hE⟩;replace hS:=hS.ext hE;clear hE;rw [hK1];refine AX ?_;go_step|go_skip|refine X0 ?_|refine IR ?_|refine X9 25 ?_ ?_<;>intro hB<;>(try exact AQ)<;>go_step|refine db 21 ?_|refine Vw ?_|refine KR ?_|refine dO 8 ?_;clear hS;intro g8 w hS|refine dP ?_;clear hS;intro w hS|refine Yq ?_|refine AH ?_;go_step|fail)
  go_loopg [9,35] n (fun gk ev kv w=>∃(k:Nat) (E:Int),gk+k=n∧kv= .int .i64 k∧ev= .int .i64 E∧E=Dh (Hv n m h) l k∧St w0 w [blk g8 [.int .i64 m, .int .i64 h]])
  case atStart=>exact ⟨0,_,rfl,rfl,rfl,by rw [H0.out];simp [Dh,Ci,B5],hS.sub AV⟩
  case round=>
   clear hS
   obtain ⟨k,E,hk,rfl,rfl,hE,hS⟩:=hrel
   have HE:=AD hE
   clear hE
   by_cases hlt:k<n
   ·have ls:Ac (Bp l 64 k) 64:=CT l 64 k n HL.out hlt
    have HN:=AD (Ez l k n HL.out hlt)
    by_cases hz:E=0
    ·subst hz
     cases hb:Ci (Bp l 64 k)
     all_goals
      have HB:=AD hb
      clear hb
      repeat' (first
       | (refine Al 76 ?_);refine Am AA Tryz.call76 (BH _ _ (Bp l 64 k) (hS.isl AK (by omega)) 128 #[] (fun n=>decide (n< -40000)||decide (40000<n)) Tryz.call128 (fun n=>NE n _)) ?_;rintro e w' ⟨rfl,rfl⟩;rw [K3,HB.out];refine AX ?_;go_step|refine X0 ?_|refine Eu ?_|refine X9 40 ?_ ?_<;>intro hB<;>(try exact AQ)<;>go_step|refine X2 ?_|refine bi 37 ?_;intro b37 o37 hl37 hc37;go_step|refine dY ?_|refine X7 ?_|refine ZW ?_|refine KP 11 ?_;clear hS;intro g11 w hS|refine FX ?_;clear hS;intro w hS|refine AH ?_;go_step|fail)
      all_goals
       go_roundg (gk-1)
       case measure=>omega
       case rel=>
        exact ⟨k+1,_,by omega,by go_num,rfl,by first|exact P2 HE.out HL.out hlt HB.out|exact Rk HE.out HL.out hlt HB.out,hS.sub AV⟩
    repeat' (first
     | go_big_skip|((with_reducible refine J4 ?_);(first|go_big_want|go_step);go_step)|((with_reducible refine Ak _ (.pick _ _ _) ?_);(refine A6 rfl AA ?_;go_step))|((refine AP 40 ?_);(refine CY _ (V.eql rfl rfl) AA (fun hB=>?_) (fun hB=>?_)<;>(try exact AQ)<;>go_step))|((with_reducible refine Ak _ (.binOp .lss _ _ _ _) ?_);(refine Ap AA (V.lss rfl rfl) ?_;go_step))|((refine AP 37 ?_);(refine ML (by with_reducible assumption) Tryz.underlying42 Id rfl rfl BJ (by omega) AA ?_;intro b37 o37 hl37 hc37;go_step))|((with_reducible refine Ak _ (.binOp .add _ _ _ _) ?_);(refine Ap AA (V.addI rfl rfl (by omega)) ?_;go_step))|((with_reducible refine Ak _ (.load 26 _) ?_);(refine Ad ?_;apply Dl hS 26 _ rfl _ _ rfl 64 (AO rfl) _;(case hl=>with_reducible assumption);(case hr=>with_reducible assumption);refine AC ?_;go_step))|((refine AP 11 ?_);(refine Ad ?_;apply Nh (o:=⟨some 11,_,_,_,_,_⟩) hS 26 rfl (List.replicate 64 0) 64 List.length_replicate gK;clear hS;intro g11 w hS;refine AC ?_;go_step))|((with_reducible refine Ak _ (.store 26 _ _) ?_);(refine Ad ?_;apply Nn hS 26 _ _ rfl _ rfl 64 (AO rfl) _ _;(case hp=>exact AK);(case hy=>rfl);(case hm=>(repeat (first|assumption|exact Ac.rep|apply Ac.set|((with_reducible show Ac (_::_) _);exact rfl))));(case hd=>exact rfl);clear hS;intro w hS))|(refine AH ?_;go_step)|fail)
    go_roundg (gk-1)
    case measure=>omega
    case rel=>exact ⟨k+1,_,by omega,by go_num,rfl,P3 HE.out hz HL.out hlt,hS.sub AV⟩
   obtain rfl:k=n:=by omega
   have hE:=HE.out.trans HEx.out.symm
   clear HE
   have hz:E≠0:=by rw [hE];exact hbad
   have HJ:=AD hE
   clear hE
   repeat' (first
    | refine X0 ?_|refine X2 ?_|refine X3 ?_|refine AH ?_;go_step|fail)
   go_ret2
   exact aN E HJ.out.symm hz hS.1
def e7(q b:List Int):List Int:=Dz (gW b) q
def RS(q l:List Int):Nat→List Int
 | 0=>[]
 | n+1=>RS q l n++e7 q (Bp l 64 n)
def bX(q b:List Int):List Int:=(YW (Q6 b q)).map fun n=>min (max n (-40000)) 40000
def Ov(q l:List Int):Nat→List Int
 | 0=>[]
 | n+1=>Ov q l n++bX q (Bp l 64 n)
theorem Nx(q b:List Int)(hq:q.length=64):(e7 q b).length=64:=Gg _ _ (Fu _ _) hq
theorem Ou(q b:List Int):(bX q b).length=64:=by unfold bX;rw [List.length_map];exact Fu _ _
theorem IW(q l:List Int)(hq:q.length=64):∀n,(RS q l n).length=n*64
 | 0=>by simp [RS]
 | n+1=>by rw [RS,List.length_append,IW q l hq n,Nx q _ hq];omega
theorem Tz(q l:List Int):∀n,(Ov q l n).length=n*64
 | 0=>by simp [Ov]
 | n+1=>by rw [Ov,List.length_append,Tz q l n,Ou];omega
theorem QW{a b:List Int}{n k:Nat}(ha:a.length=n*64)(hk:k<n):Bp (a++b) 64 k=Bp a 64 k:=by
 unfold Bp
 rw [List.drop_append_of_le_length (by omega),List.take_append_of_le_length (by rw [List.length_drop];omega)]
theorem YA{a b:List Int}{n:Nat}(ha:a.length=n*64)(hb:b.length=64):Bp (a++b) 64 n=b:=by
 unfold Bp
 rw [←ha,List.drop_left,List.take_of_length_le (by omega)]
theorem Sw(q l:List Int)(hq:q.length=64):∀n k,k<n→Bp (RS q l n) 64 k=e7 q (Bp l 64 k)
 | 0,k,h=>by omega
 | n+1,k,h=>by
   rw [RS]
   by_cases hk:k<n
   ·rw [QW (IW q l hq n) hk];exact Sw q l hq n k hk
   obtain rfl:k=n:=by omega
   exact YA (IW q l hq k) (Nx q _ hq)
def JX(m h:Int):List (List Int)→Int
 | []=>0
 | l::L=>if Ch l l.length m h=0 then JX m h L else Ch l l.length m h
def F0(m h:Int)(L:List (List Int)):Int:=if 1≤m∧m≤64∧1≤h∧h≤64 then if L.length=1∨L.length=3 then JX m h L else 1 else 1
def z3(f:Int→Int→Int→Int)(a b c:List Int):List Int:=V5 a.length fun i=>f (AJ a i) (AJ b i) (AJ c i)
def DI(f1 f2 f3:Int→Int→Int→Int)(L:List (List Int)):List (List Int):=match L with
 | [a,b,c]=>[z3 f1 a b c,z3 f2 a b c,z3 f3 a b c]
 | _=>L
theorem FV(f1 f2 f3:Int→Int→Int→Int)(L:List (List Int)):(DI f1 f2 f3 L).length=L.length:=by
 unfold DI;split<;>rfl
def ND(m h:Int)(q:List Int)(L:List (List Int)):Int:=if F0 m h L=0 then if J8 q then 0 else 1 else F0 m h L
def OP(m h:Int)(q:List Int):List (List Int)→List Int
 | []=>[]
 | l::L=>RS q (PX l m h) (Ai m h)++OP m h q L
def TI(m h:Int)(q:List Int)(L:List (List Int)):List Int:=OP m h q (DI Vk Vi Vj L)
theorem Tc(m h:Int)(q:List Int)(hq:q.length=64):∀L:List (List Int),(OP m h q L).length=L.length*Ai m h*64
 | []=>by simp [OP]
 | l::L=>by
   rw [OP,List.length_append,IW q _ hq,Tc m h q hq L,List.length_cons,Nat.add_mul,Nat.one_mul,Nat.add_mul]
   omega
theorem QL(m h:Int)(q:List Int)(l:List Int):∀L:List (List Int),OP m h q (L++[l])=OP m h q L++RS q (PX l m h) (Ai m h)
 | []=>by simp [OP]
 | x::L=>by rw [List.cons_append,OP,OP,QL m h q l L,List.append_assoc]
def ZA(m h:Int)(q l:List Int)(n:Nat):Nat→List (List Int)
 | 0=>[]
 | k+1=>ZA m h q l n k++[Fw (Ov q ((l.drop (k*n*64)).take (n*64)) n) m h]
def Q3(m h:Int)(q l:List Int)(n k:Nat):List (List Int):=DI Ic Ib Ia (ZA m h q l n k)
theorem Km(m h:Int)(q l:List Int)(n:Nat):∀k,(ZA m h q l n k).length=k
 | 0=>rfl
 | k+1=>by rw [ZA,List.length_append,Km m h q l n k];rfl
end Go.Proofs.YtohacgmhmbijmaaGreatDoor
namespace Go.Proofs.YtohacgmhmbijmaaGreatDoor
attribute [local irreducible] Region.wanted
open Go.ChangeShapes Go.WideShapes Go.ChangeAt Go.RowKit
set_option linter.unusedVariables false
set_option maxRecDepth 100000
set_option maxHeartbeats 8000000
theorem Xa{H:Type}{enc:TypeId×Value→H}{P:Program}{W:World}{base:Nat}{t:TypeId}{v:Value}{d:DataW H}{p:List MemPlace}(ht:P.underlying t=some (.int .i64))
 (ho:Value.okWide P W .any base t v) (h:DataW.Trod enc P W 0 (fun _=>true) true t v d p):∃n:Int,v= .int .i64 n∧ -9223372036854775808≤n∧n≤9223372036854775807:=by
 obtain ⟨n,rfl,rfl,rfl,wn⟩:=open_int ht ho h
 refine ⟨n,rfl,?_⟩
 have h:=wn
 simp only [Lit.wf,Bool.and_eq_true,decide_eq_true_eq] at h
 have h1:IntKind.i64.min= -9223372036854775808:=rfl
 have h2:IntKind.i64.max=9223372036854775807:=rfl
 omega
theorem aY{P:Program}{W:World}{base:Nat}{u:TypeId}{v:Value}(hu:P.underlying u=some (.int .i64))(h:Cell.okWide P W .any base u v):
 ∃n:Int,v= .int .i64 n∧ -9223372036854775808≤n∧n≤9223372036854775807:=by
 unfold Cell.okWide at h
 rw [hu] at h
 dsimp only at h
 unfold Cell.ok at h
 rw [hu] at h
 cases v<;>simp only at h
 case int k n=>
  obtain ⟨rfl,h⟩:=h
  refine ⟨n,rfl,?_⟩
  simp only [IntKind.has] at h
  have h1:IntKind.i64.min= -9223372036854775808:=rfl
  have h2:IntKind.i64.max=9223372036854775807:=rfl
  simp only [h1,h2] at h
  simpa using h
theorem d7{P:Program}{W:World}{base:Nat}{t:TypeId}{v:Value}{ts:List TypeId}(hd:(match P.underlying t with|some (.struct _)|some (.array _ _)=>true|_=>false)=true)
 (hts:P.cellTypes P.depth t=some ts) (hall:∀u∈ts,P.underlying u=some (.int .i64)) (ho:Value.okWide P W .any base t v):
 ∃l:List Int,l.length=P.cellsOf t∧v= .agg (iv l)∧∀i,i<l.length→ -9223372036854775808≤AJ l i∧AJ l i≤9223372036854775807:=by
 have h':∃cs,v= .agg cs∧cs.size=P.cellsOf t∧Row.okWide P W .any base t cs:=by
  unfold Value.okWide at ho
  split at ho
  ·exact ho
  ·exact ho
  rename_i h1 h2
  split at hd
  ·rename_i x h3;exact absurd h3 (h1 x)
  ·rename_i x y h3;exact absurd h3 (h2 x y)
  cases hd
 obtain ⟨cs,rfl,hsz,ts',hts',_,hcells⟩:=h'
 rw [hts] at hts'
 cases hts'
 have key:∀i,i<cs.size→∃n:Int,cs[i]? =some (.int .i64 n)∧ -9223372036854775808≤n∧n≤9223372036854775807:=by
  intro i hi
  obtain ⟨u,hu,hc⟩:=hcells i cs[i] (by simp [hi])
  obtain ⟨n,hn,hb⟩:=aY (hall u (List.mem_of_getElem? hu)) hc
  exact ⟨n,by simp [hi,hn],hb⟩
 refine ⟨(List.range cs.size).map fun i=>intOf (cs[i]?.getD undef),by simp [hsz],?_,?_⟩
 ·congr 1
  apply Array.ext_getElem?
  intro i
  by_cases hi:i<cs.size
  ·obtain ⟨n,hn,_⟩:=key i hi
   simp only [iv,List.map_map,List.getElem?_toArray,List.getElem?_map,List.getElem?_range hi,Option.map_some,Function.comp]
   rw [hn];rfl
  simp [iv,List.getElem?_eq_none (show (List.range cs.size).length≤i by simp;omega)]
  omega
 intro i hi
 have hi':i<cs.size:=by simpa using hi
 obtain ⟨n,hn,hb⟩:=key i hi'
 have e:AJ ((List.range cs.size).map fun i=>intOf (cs[i]?.getD undef)) i=n:=by
  simp only [AJ,List.getD,List.getElem?_map,List.getElem?_range hi',Option.map_some,Option.getD_some]
  rw [hn];rfl
 rw [e];exact hb
end Go.Proofs.YtohacgmhmbijmaaGreatDoor
namespace Go.Proofs.YtohacgmhmbijmaaGreatDoor
attribute [local irreducible] Region.wanted
open Go.ChangeShapes Go.WideShapes Go.ChangeAt Go.RowKit Go.Deep
set_option linter.unusedVariables false
set_option maxRecDepth 100000
set_option maxHeartbeats 8000000
def Fb(P:Program)(k:IntKind):Nat→TypeId→Bool
 | 0,_=>false
 | d+1,t=>match P.underlying t with
   | some (.int k')=>decide (k'=k)&&P.cellsOf t==1
   | some (.array n e)=>Fb P k d e&&P.cellsOf t==n*P.cellsOf e
   | some (.struct fs)=>fs.toList.all (fun f=>Fb P k d f.type)&&(List.range (P.cellsOf t)).all fun j=>fs.toList.any fun f=>decide (f.offset≤j)&&decide (j<f.offset+P.cellsOf f.type)
   | _=>false
theorem Na{H:Type}{enc:TypeId×Value→H}{P:Program}{W:World}{base:Nat}{sp:Nat→Bool}{held:Bool}(k:IntKind):∀(d:Nat)(t:TypeId),Fb P k d t=true→∀(fuel:Nat)(cs:List Value)(x:DataW H×List MemPlace),
 DataW.trod enc P W base sp held fuel t cs=some x→cs.length=P.cellsOf t∧∀j,j<cs.length→∃n,cs[j]? =some (.int k n)∧(Lit.int k n).wf=true:=by
 intro d
 induction d with
 | zero=>intro t h;simp [Fb] at h
 | succ d ih=>
   intro t ht fuel cs x h
   unfold Fb at ht
   split at ht
   ·rename_i k' hu
    simp only [Bool.and_eq_true,decide_eq_true_eq,beq_iff_eq] at ht
    obtain ⟨rfl,hc⟩:=ht
    obtain ⟨n,rfl,_,hw⟩:=DataW.trod_int hu h
    refine ⟨by simp [hc],fun j hj=>?_⟩
    obtain rfl:j=0:=by simp at hj;omega
    exact ⟨n,rfl,hw⟩
   ·rename_i n e hu
    simp only [Bool.and_eq_true,beq_iff_eq] at ht
    obtain ⟨he,hc⟩:=ht
    obtain ⟨xs,m,_,_,hl,hxl,hf⟩:=DataW.trod_array hu h
    refine ⟨hl,fun j hj=>?_⟩
    rw [hl,hc] at hj
    have hcp:0<P.cellsOf e:=by
     rcases Nat.eq_zero_or_pos (P.cellsOf e) with h0|h0
     ·rw [h0] at hj;simp at hj
     exact h0
    have hjn:j/P.cellsOf e<n:=by rw [Nat.div_lt_iff_lt_mul hcp];exact hj
    have hfe:=hf (j/P.cellsOf e) hjn
    rw [List.getElem?_eq_getElem (by omega)] at hfe
    obtain ⟨hl2,hv⟩:=ih e he m _ _ hfe
    have hm:=Nat.mod_lt j hcp
    obtain ⟨v,hv1,hv2⟩:=hv (j%P.cellsOf e) (by rw [hl2];exact hm)
    refine ⟨v,?_,hv2⟩
    rw [List.getElem?_take,if_pos hm,List.getElem?_drop] at hv1
    rwa [show j/P.cellsOf e*P.cellsOf e+j%P.cellsOf e=j by rw [Nat.mul_comm];exact Nat.div_add_mod j _] at hv1
   ·rename_i fs hu
    simp only [Bool.and_eq_true] at ht
    obtain ⟨he,hc⟩:=ht
    obtain ⟨xs,m,_,_,hl,hxl,hf⟩:=DataW.trod_struct hu h
    refine ⟨hl,fun j hj=>?_⟩
    rw [List.all_eq_true] at he hc
    have h1:=hc j (List.mem_range.2 (by omega))
    rw [List.any_eq_true] at h1
    obtain ⟨f,hfm,h1⟩:=h1
    simp only [Bool.and_eq_true,decide_eq_true_eq] at h1
    obtain ⟨i,hi,hfi⟩:=List.getElem_of_mem hfm
    have hi':i<fs.size:=by simpa using hi
    have hfe:=hf i f (by rw [Array.getElem?_eq_getElem hi'];simpa using hfi)
    rw [List.getElem?_eq_getElem (by omega)] at hfe
    obtain ⟨hl2,hv⟩:=ih f.type (he f hfm) m _ _ hfe
    obtain ⟨v,hv1,hv2⟩:=hv (j-f.offset) (by rw [hl2];omega)
    refine ⟨v,?_,hv2⟩
    rw [List.getElem?_take,if_pos (by omega),List.getElem?_drop,show f.offset+(j-f.offset)=j by omega] at hv1
    exact hv1
   cases ht
theorem H5{H:Type}{enc:TypeId×Value→H}{P:Program}{W:World}{t e:TypeId}{v:Value}{x:DataW H×List MemPlace}{fuel:Nat}(k:IntKind)(ht:P.underlying t=some (.slice e))(dp:Nat)(he:Fb P k dp e=true)
 (s:Nat) (hs:P.cellsOf e=s) (hs0:0<s) (h:DataW.trod enc P W 0 (fun _=>true) true fuel t [v]=some x):
 ∃(n:Nat) (ns:List Int),ns.length=n*s∧Sl W s v n (ns.map (Value.int k))∧∀i,i<ns.length→(Lit.int k (AJ ns i)).wf=true:=by
 rcases open_slice ht h with ⟨h0,_⟩|⟨a,len,cap,m,n,D,Pl,hcs,hb,hl,hm,hmm,_,hx⟩
 ·obtain rfl:v= .slice none 0 0:=by simpa using h0
  exact ⟨0,[],by simp,Sl.nil W s,fun i hi=>by simp at hi⟩
 obtain rfl:v= .slice (some a) len cap:=by simpa using hcs
 have hmc:m=cap:=by simpa using hmm
 subst hmc
 have each:∀i,i<len*s→∃q:Int,W.cell? (a.add i)=some (.int k q)∧(Lit.int k q).wf=true:=by
  intro i hi
  have hsp:0<s:=by
   rcases Nat.eq_zero_or_pos s with h0|h0
   ·rw [h0] at hi;simp at hi
   exact h0
  have hil:i/s<len:=by rw [Nat.div_lt_iff_lt_mul hsp];exact hi
  obtain ⟨cs',h1,h2⟩:=hx (i/s) (by omega)
  rw [hs] at h1
  obtain ⟨hl3,hv3⟩:=Na k dp e he _ _ _ h2
  obtain ⟨_,hl4,hc4⟩:=World.cells?_some h1
  have hm3:=Nat.mod_lt i hsp
  obtain ⟨q,hq1,hq2⟩:=hv3 (i%s) (by rw [hl4];exact hm3)
  refine ⟨q,?_,hq2⟩
  rw [←hq1,←hc4 (i%s) hm3,Go.Deep.add_add,show i/s*s+i%s=i by rw [Nat.mul_comm];exact Nat.div_add_mod i _]
 obtain ⟨f,hf⟩:=choose_lt each
 refine ⟨len,(List.range (len*s)).map f,by simp,⟨by simp,some a,m,rfl,hl,hm,?_⟩,?_⟩
 ·rcases Nat.eq_zero_or_pos (len*s) with h0|h0
  ·rcases Nat.eq_zero_or_pos len with h1|h1
   ·exact .inl h1
   exact absurd h0 (by have:=Nat.mul_pos h1 hs0;omega)
  refine .inr ?_
  have hc0:=(hf 0 h0).1
  have hspot:a.spot=none:=by
   rw [show a.add 0=a from rfl] at hc0
   unfold World.cell? at hc0
   split at hc0
   ·split at hc0
    ·cases hc0
    rename_i hh;simpa using hh
   cases hc0
  refine ⟨a.block,a.off,by cases a;simp at hspot;simp [hspot],fun i hi=>?_⟩
  have hci:=(hf i hi).1
  have haddr:a.add i=⟨a.block,a.off+i,none⟩:=by
   unfold Addr.add
   split
   ·rename_i h0;subst h0;cases a;simp at hspot;simp [hspot]
   rfl
  rw [haddr] at hci
  rw [hci]
  simp [hi]
 intro i hi
 have hi':i<len*s:=by simpa using hi
 have:=(hf i hi').2
 simpa [AJ,List.getD,hi'] using this
theorem XY{P:Program}{W:World}{base:Nat}{t:TypeId}{v:Value}(hd:(match P.underlying t with|some (.struct _)|some (.array _ _)=>true|_=>false)=true)(ho:Value.okWide P W .any base t v):∃cs,v= .agg cs:=by
 unfold Value.okWide at ho
 split at ho
 ·obtain ⟨cs,h,_⟩:=ho;exact ⟨cs,h⟩
 ·obtain ⟨cs,h,_⟩:=ho;exact ⟨cs,h⟩
 rename_i h1 h2
 split at hd
 ·rename_i x h3;exact absurd h3 (h1 x)
 ·rename_i x y h3;exact absurd h3 (h2 x y)
 cases hd
theorem Em(n:Int):(Lit.int .i64 n).wf=true↔ -9223372036854775808≤n∧n≤9223372036854775807:=by
 simp only [Lit.wf,Bool.and_eq_true,decide_eq_true_eq]
 have h1:IntKind.i64.min= -9223372036854775808:=rfl
 have h2:IntKind.i64.max=9223372036854775807:=rfl
 rw [h1,h2]
theorem Vo(n:Int):(Lit.int .u8 n).wf=true↔0≤n∧n≤255:=by
 simp only [Lit.wf,Bool.and_eq_true,decide_eq_true_eq]
 have h1:IntKind.u8.min=0:=rfl
 have h2:IntKind.u8.max=255:=rfl
 rw [h1,h2]
end Go.Proofs.YtohacgmhmbijmaaGreatDoor
namespace Go.Proofs.YtohacgmhmbijmaaGreatDoor
attribute [local irreducible] Region.wanted
set_option linter.unusedVariables false
set_option maxRecDepth 100000
set_option maxHeartbeats 8000000
def FG(l:List Bool):Nat:=l.foldl (fun a b=>2*a+b.toNat) 0
theorem XU(l:List Bool):∀a,l.foldl (fun a b=>2*a+b.toNat) a=a*2^l.length+FG l:=by
 induction l with
 | nil=>intro a;simp [FG]
 | cons b l ih=>
   intro a
   simp only [FG,List.foldl_cons,List.length_cons]
   rw [ih,ih (2*0+b.toNat),Nat.pow_succ,Nat.add_mul,Nat.mul_assoc,Nat.mul_zero,Nat.zero_add]
   have e:a*(2^l.length*2)=2*(a*2^l.length):=by rw [←Nat.mul_assoc,Nat.mul_comm]
   rw [e]
   omega
theorem Di(xs ys:List Bool):FG (xs++ys)=FG xs*2^ys.length+FG ys:=by
 unfold FG
 rw [List.foldl_append]
 exact XU ys _
theorem Il(xs:List Bool)(b:Bool):FG (xs++[b])=2*FG xs+b.toNat:=by
 rw [Di];simp [FG,Nat.mul_comm]
theorem H4(l:List Bool):FG l<2^l.length:=by
 induction l with
 | nil=>simp [FG]
 | cons b l ih=>
   have h:=Di [b] l
   simp only [List.singleton_append] at h
   rw [h,List.length_cons,Nat.pow_succ]
   have:FG [b]≤1:=by cases b<;>simp [FG]
   have h2:FG [b]*2^l.length≤1*2^l.length:=Nat.mul_le_mul_right _ this
   omega
def Ax:Nat→Nat→List Bool
 | 0,_=>[]
 | w+1,v=>Ax w (v/2)++[v%2==1]
theorem As(w:Nat):∀v,(Ax w v).length=w:=by
 induction w with
 | zero=>intro v;rfl
 | succ w ih=>intro v;simp [Ax,ih]
theorem Le(w:Nat):∀v,FG (Ax w v)=v%2^w:=by
 induction w with
 | zero=>intro v;simp [Ax,FG,Nat.mod_one]
 | succ w ih=>
   intro v
   simp only [Ax,Il,ih]
   have h1:(v%2==1).toNat=v%2:=by
    rcases Nat.mod_two_eq_zero_or_one v with h|h<;>simp [h]
   rw [h1,Nat.pow_succ,Nat.mul_comm (2^w) 2,Nat.mod_mul]
   omega
theorem Ds(w v:Nat)(h:v<2^w):FG (Ax w v)=v:=by rw [Le,Nat.mod_eq_of_lt h]
theorem Fc(l:List Bool):Ax l.length (FG l)=l:=by
 generalize hn:l.length=n
 induction n generalizing l with
 | zero=>have:=List.eq_nil_of_length_eq_zero hn;subst this;rfl
 | succ n ih=>
   obtain ⟨l,b,rfl⟩:∃m b,l=m++[b]:=by
    have hne:l≠[]:=by intro h;subst h;simp at hn
    exact ⟨l.dropLast,l.getLast hne,(List.dropLast_concat_getLast hne).symm⟩
   rw [Il,Ax]
   have h1:(2*FG l+b.toNat)/2=FG l:=by cases b<;>simp<;>omega
   have h2:((2*FG l+b.toNat)%2==1)=b:=by cases b<;>simp<;>omega
   rw [h1,h2,ih l (by simpa using hn)]
theorem aU(xs ys:List Bool)(hl:xs.length=ys.length)(h:FG xs=FG ys):xs=ys:=by
 rw [←Fc xs,←Fc ys,hl,h]
theorem Lg(l:List Bool)(i n:Nat)(h:i+n≤l.length):FG ((l.drop i).take n)=FG l/2^(l.length-i-n)%2^n:=by
 have e1:l=l.take i++((l.drop i).take n++l.drop (i+n)):=by
  rw [←List.drop_drop,List.take_append_drop,List.take_append_drop]
 have hl3:(l.drop (i+n)).length=l.length-i-n:=by simp;omega
 have hl2:((l.drop i).take n).length=n:=by simp;omega
 have hlt:=H4 (l.drop (i+n))
 have hlt2:=H4 ((l.drop i).take n)
 rw [hl3] at hlt
 rw [hl2] at hlt2
 conv=>rhs;rw [e1]
 have hl0:(l.take i++((l.drop i).take n++l.drop (i+n))).length=l.length:=by rw [←e1]
 rw [hl0,Di,Di,List.length_append,hl2,hl3]
 generalize FG (l.drop (i+n))=z at*
 generalize FG ((l.drop i).take n)=y at*
 generalize FG (l.take i)=x at*
 generalize l.length-i-n=m at*
 have hp:0<2^m:=Nat.two_pow_pos _
 rw [Nat.pow_add,←Nat.mul_assoc,←Nat.add_assoc,←Nat.add_mul,Nat.add_comm,Nat.add_mul_div_right _ _ hp,Nat.div_eq_of_lt hlt,Nat.zero_add,Nat.add_comm,Nat.add_mul_mod_self_right,Nat.mod_eq_of_lt hlt2]
def CP:Nat→List Bool→List Nat
 | 0,_=>[]
 | k+1,bs=>FG (bs.take 8)::CP k (bs.drop 8)
theorem VL(k:Nat):∀bs,(CP k bs).length=k:=by
 induction k with
 | zero=>intro;rfl
 | succ k ih=>intro;simp [CP,ih]
theorem Rz(k:Nat):∀bs:List Bool,CP (k+1) bs=CP k bs++[FG ((bs.drop (8*k)).take 8)]:=by
 induction k with
 | zero=>intro bs;simp [CP]
 | succ k ih=>
   intro bs
   rw [CP,ih,CP,List.cons_append,List.drop_drop]
   congr 3
   rw [show 8+8*k=8*(k+1) by omega]
theorem OM(k:Nat):∀(bs cs:List Bool),8*k≤bs.length→CP k (bs++cs)=CP k bs:=by
 induction k with
 | zero=>intros;rfl
 | succ k ih=>
   intro bs cs h
   rw [CP,CP,List.take_append_of_le_length (by omega),List.drop_append_of_le_length (by omega),ih _ _ (by simp;omega)]
theorem Xe(k:Nat):∀bs,∀x∈CP k bs,x<256:=by
 induction k with
 | zero=>intro bs x hx;simp [CP] at hx
 | succ k ih=>
   intro bs x hx
   rw [CP,List.mem_cons] at hx
   rcases hx with rfl|hx
   ·have h:=H4 (bs.take 8)
    have h2:(bs.take 8).length≤8:=by simp;omega
    have h3:2^(bs.take 8).length≤2^8:=Nat.pow_le_pow_right (by omega) h2
    omega
   exact ih _ x hx
def BM(l:List Nat):List Bool:=l.flatMap (Ax 8)
theorem CV(l:List Nat):(BM l).length=8*l.length:=by
 induction l with
 | nil=>rfl
 | cons x l ih=>simp [BM,As] at*;omega
theorem Ot(k:Nat):∀bs:List Bool,8*k≤bs.length→BM (CP k bs)=bs.take (8*k):=by
 induction k with
 | zero=>intro bs _;rfl
 | succ k ih=>
   intro bs h
   have h8:(bs.take 8).length=8:=by simp;omega
   have e:Ax 8 (FG (bs.take 8))=bs.take 8:=by
    have:=Fc (bs.take 8)
    rwa [h8] at this
   simp only [CP,BM,List.flatMap_cons] at*
   rw [e,ih _ (by simp;omega),show 8*(k+1)=8+8*k by omega,List.take_add]
theorem In(l:List Nat)(h:∀x∈l,x<256):CP l.length (BM l)=l:=by
 induction l with
 | nil=>rfl
 | cons x l ih=>
   have hx:=h x (by simp)
   simp only [BM,List.flatMap_cons,List.length_cons,CP] at*
   rw [List.take_left' (As 8 x),List.drop_left' (As 8 x),Le,ih (fun y hy=>h y (by simp [hy])),Nat.mod_eq_of_lt (by omega)]
def Bf(bs:List Bool):List Bool:=List.replicate ((8-bs.length%8)%8) true
def bytesOf(bs:List Bool):List Nat:=CP ((bs.length+7)/8) (bs++Bf bs)
theorem GM(bs:List Bool):(bs++Bf bs).length=8*((bs.length+7)/8):=by
 simp [Bf];omega
theorem GE(bs:List Bool):(bytesOf bs).length=(bs.length+7)/8:=VL _ _
theorem GY(bs:List Bool):BM (bytesOf bs)=bs++Bf bs:=by
 rw [bytesOf,Ot _ _ (by rw [GM];exact Nat.le_refl _),←GM,List.take_length]
theorem EU(bs:List Bool):∀x∈bytesOf bs,x<256:=Xe _ _
theorem K6(w v i:Nat)(h:i<w):(Ax w v)[i]? =some (v/2^(w-1-i)%2==1):=by
 induction w generalizing v i with
 | zero=>omega
 | succ w ih=>
   rw [Ax]
   by_cases hi:i<w
   ·rw [List.getElem?_append_left (by rw [As];exact hi),ih _ _ hi,Nat.div_div_eq_div_mul,←Nat.pow_succ']
    rw [show (w-1-i).succ=w+1-1-i by omega]
   have:i=w:=by omega
   subst this
   rw [List.getElem?_append_right (by rw [As];exact Nat.le_refl _),As]
   simp
theorem SM(l:List Nat)(i:Nat)(h:i<8*l.length):(BM l)[i]? =some (l.getD (i/8) 0/2^(7-i%8)%2==1):=by
 induction l generalizing i with
 | nil=>simp at h
 | cons x l ih=>
   simp only [BM,List.flatMap_cons] at*
   by_cases hi:i<8
   ·rw [List.getElem?_append_left (by rw [As];exact hi),K6 8 x i hi]
    have h1:i/8=0:=by omega
    have h2:i%8=i:=by omega
    simp [h1,h2]
   rw [List.getElem?_append_right (by rw [As];omega),As,ih (i-8) (by simp at h;omega)]
   have h1:i/8=(i-8)/8+1:=by omega
   have h2:(i-8)%8=i%8:=by omega
   rw [h1,h2,List.getD_cons_succ]
def nx(c:Nat→Nat):Nat→Nat
 | 0=>0
 | k+1=>2*nx c k+c k
def Gd(c:Nat→Nat):Nat→List (Nat×Nat)
 | 0=>[]
 | k+1=>Gd c k++(List.range (c k)).map fun j=>(k+1,2*nx c k+j)
def sm(c:Nat→Nat):Nat→Nat
 | 0=>0
 | k+1=>sm c k+c k
theorem Fe(c:Nat→Nat):∀k,(Gd c k).length=sm c k
 | 0=>rfl
 | k+1=>by simp [Gd,sm,Fe c k]
def ZB(x:Nat×Nat):Nat:=x.2*2^(16-x.1)
def bf(x:Nat×Nat):Nat:=(x.2+1)*2^(16-x.1)
inductive Fx:Nat→List (Nat×Nat)→Nat→Prop
 | nil {a:Nat}:Fx a [] a
 | cons {x:Nat×Nat} {l:List (Nat×Nat)} {b:Nat} (h:Fx (bf x) l b):Fx (ZB x) (x::l) b
theorem Fx.append{a b c:Nat}{l m:List (Nat×Nat)}(h:Fx a l b)(k:Fx b m c):Fx a (l++m) c:=by
 induction h with
 | nil=>exact k
 | cons h ih=>exact .cons (ih k)
theorem Qi(k s:Nat):∀n a,Fx ((s+a)*2^(16-(k+1))) ((List.range' a n).map fun j=>(k+1,s+j)) ((s+a+n)*2^(16-(k+1)))
 | 0,a=>by simpa using Fx.nil
 | n+1,a=>by
   have h:=Qi k s n (a+1)
   simp only [List.range'_succ,List.map_cons]
   refine Fx.cons (x:=(k+1,s+a)) ?_
   rw [show s+a+(n+1)=s+(a+1)+n by omega]
   exact h
theorem MA(c:Nat→Nat):∀k,k≤16→Fx 0 (Gd c k) (nx c k*2^(16-k))
 | 0,_=>by simpa [Gd,nx] using Fx.nil
 | k+1,h=>by
   have h1:=MA c k (by omega)
   have h2:=Qi k (2*nx c k) (c k) 0
   have e:nx c k*2^(16-k)=(2*nx c k+0)*2^(16-(k+1)):=by
    rw [show 16-k=(16-(k+1))+1 by omega,Nat.pow_succ,Nat.add_zero (2*_),Nat.mul_comm 2 (nx c k),Nat.mul_assoc (nx c k) 2,Nat.mul_comm 2]
   rw [e] at h1
   rw [Gd,nx,List.range_eq_range']
   exact h1.append h2
theorem Fx.le{a b:Nat}{l:List (Nat×Nat)}(h:Fx a l b):a≤b:=by
 induction h with
 | nil=>omega
 | @cons x l b h ih=>
   have:ZB x≤bf x:=Nat.mul_le_mul_right _ (by omega)
   omega
theorem Fx.mem{a b:Nat}{l:List (Nat×Nat)}(h:Fx a l b):∀x∈l,a≤ZB x∧bf x≤b:=by
 induction h with
 | nil=>intro x hx;cases hx
 | @cons y l b h ih=>
   intro x hx
   rcases List.mem_cons.1 hx with rfl|hx
   ·exact ⟨Nat.le_refl _,h.le⟩
   have h1:=ih x hx
   have:ZB y≤bf y:=Nat.mul_le_mul_right _ (by omega)
   omega
theorem Fx.pair{a b:Nat}{l:List (Nat×Nat)}(h:Fx a l b):l.Pairwise fun x y=>bf x≤ZB y:=by
 induction h with
 | nil=>exact List.Pairwise.nil
 | @cons x l b h ih=>exact List.Pairwise.cons (fun y hy=>(h.mem y hy).1) ih
theorem LA(c:Nat→Nat):∀k x,x∈Gd c k→1≤x.1∧x.1≤k
 | 0,x,h=>by cases h
 | k+1,x,h=>by
   rcases List.mem_append.1 h with h|h
   ·have:=LA c k x h;omega
   obtain ⟨j,_,rfl⟩:=List.mem_map.1 h
   exact ⟨by simp,by simp⟩
def NL(c:Nat→Nat):Prop:=∀k,k<16→nx c (k+1)<2^(k+1)
theorem XV(c:Nat→Nat)(k:Nat):∀d,nx c k*2^d≤nx c (k+d)
 | 0=>by simp
 | d+1=>by
   have:=XV c k d
   rw [←Nat.add_assoc,nx,Nat.pow_succ,←Nat.mul_assoc];omega
theorem Gp(c:Nat→Nat):NL c↔nx c 16<65536:=by
 constructor
 ·intro h;exact h 15 (by omega)
 intro h k hk
 have h1:=XV c (k+1) (15-k)
 rw [show k+1+(15-k)=16 by omega] at h1
 have h2:nx c (k+1)*2^(15-k)<2^(k+1)*2^(15-k):=by
  rw [←Nat.pow_add,show k+1+(15-k)=16 by omega];exact Nat.lt_of_le_of_lt h1 h
 exact Nat.lt_of_mul_lt_mul_right h2
theorem dm(c:Nat→Nat)(h:NL c)(x:Nat×Nat)(hx:x∈Gd c 16):x.2+1<2^x.1∧1≤x.1∧x.1≤16:=by
 have h1:=LA c 16 x hx
 have h2:=((MA c 16 (by omega)).mem x hx).2
 have h3:=(Gp c).1 h
 refine ⟨?_,h1.1,h1.2⟩
 have h4:(x.2+1)*2^(16-x.1)<2^x.1*2^(16-x.1):=by
  rw [←Nat.pow_add,show x.1+(16-x.1)=16 by omega]
  have:bf x=(x.2+1)*2^(16-x.1):=rfl
  simp at h2;omega
 exact Nat.lt_of_mul_lt_mul_right h4
theorem RL(x y:Nat×Nat)(hx:x.1≤y.1)(hy:y.1≤16)(h:y.2/2^(y.1-x.1)=x.2):ZB x≤ZB y∧ZB y<bf x:=by
 have hp:0<2^(y.1-x.1):=Nat.two_pow_pos _
 have hq:0<2^(16-y.1):=Nat.two_pow_pos _
 have e:2^(16-x.1)=2^(y.1-x.1)*2^(16-y.1):=by rw [←Nat.pow_add];congr 1;omega
 have h1:x.2*2^(y.1-x.1)≤y.2:=by rw [←h];exact Nat.div_mul_le_self _ _
 have h2:y.2<(x.2+1)*2^(y.1-x.1):=by rw [←h,Nat.mul_comm];exact Nat.lt_mul_div_succ _ hp
 unfold ZB bf
 rw [e,←Nat.mul_assoc,←Nat.mul_assoc]
 exact ⟨Nat.mul_le_mul_right _ h1,Nat.mul_lt_mul_of_pos_right h2 hq⟩
theorem Uc(c:Nat→Nat)(i j:Nat)(x y:Nat×Nat)(hi:(Gd c 16)[i]? =some x)(hj:(Gd c 16)[j]? =some y)(hne:i≠j)(hl:x.1≤y.1):¬y.2/2^(y.1-x.1)=x.2:=by
 intro h
 have hp:=(MA c 16 (by omega)).pair
 have hy:=LA c 16 y (List.mem_of_getElem? hj)
 obtain ⟨h1,h2⟩:=RL x y hl hy.2 h
 rw [List.pairwise_iff_getElem] at hp
 obtain ⟨hi1,hi2⟩:=List.getElem?_eq_some_iff.1 hi
 obtain ⟨hj1,hj2⟩:=List.getElem?_eq_some_iff.1 hj
 have hw:∀z:Nat×Nat,ZB z<bf z:=fun z=>Nat.mul_lt_mul_of_pos_right (by omega) (Nat.two_pow_pos _)
 rcases Nat.lt_or_gt_of_ne hne with g|g
 ·have:=hp i j hi1 hj1 g
  rw [hi2,hj2] at this;omega
 have:=hp j i hj1 hi1 g
 rw [hi2,hj2] at this
 have:=hw y
 omega
def cc(C:List Int)(k:Nat):Nat:=(AJ C k).toNat
def KE(C:List Int):Bool:=(List.range 16).all (fun k=>decide (0≤AJ C k∧AJ C k≤256))&&decide (sm (cc C) 16≤256)
theorem EO(C:List Int):KE C=true↔(∀k,k<16→0≤AJ C k∧AJ C k≤256)∧sm (cc C) 16≤256:=by
 simp [KE]
def QQ(c:Nat→Nat):Bool:=(List.range 16).all fun k=>decide (nx c (k+1)<2^(k+1))
theorem Gn(c:Nat→Nat):QQ c=true↔NL c:=by simp [QQ,NL]
def Qe(S:List Int):Bool:=S.all fun s=>decide (0≤s)&&decide (s<256)
def A4(C S:List Int):Int:=
 if KE C=true∧sm (cc C) 16=S.length then if Qe S then if S.Nodup∧QQ (cc C)=true then 0 else 4 else 1 else 4
theorem B8{C S:List Int}(h:A4 C S=0):(∀k,k<16→0≤AJ C k∧AJ C k≤256)∧sm (cc C) 16=S.length∧S.length≤256∧(∀s∈S,0≤s∧s<256)∧S.Nodup∧NL (cc C):=by
 unfold A4 at h
 split at h
 ·rename_i h1
  split at h
  ·rename_i h2
   split at h
   ·rename_i h3
    obtain ⟨h4,h5⟩:=(EO C).1 h1.1
    refine ⟨h4,h1.2,by omega,?_,h3.1,(Gn _).1 h3.2⟩
    intro s hs
    have:=List.all_eq_true.1 h2 s hs
    simpa using this
   cases h
  cases h
 cases h
theorem bS{C S:List Int}(h1:KE C=true)(h2:sm (cc C) 16=S.length)(h3:∀s∈S,0≤s∧s<256)(h4:S.Nodup)(h5:NL (cc C)):A4 C S=0:=by
 unfold A4
 rw [if_pos ⟨h1,h2⟩,if_pos,if_pos ⟨h4,(Gn _).2 h5⟩]
 rw [Qe,List.all_eq_true];intro s hs;simpa using h3 s hs
def Bw(C S:List Int):List (Int×Nat×Nat):=S.zip (Gd (cc C) 16)
def T5(l:List (Int×Nat×Nat)):List Int:=l.flatMap fun x=>[x.1,(x.2.1:Int),(x.2.2:Int)]
theorem YY(l:List (Int×Nat×Nat))(x:Int×Nat×Nat):T5 (l++[x])=T5 l++[x.1,(x.2.1:Int),(x.2.2:Int)]:=by simp [T5]
theorem T6:∀(l:List (Int×Nat×Nat))(k:Nat)(x:Int×Nat×Nat),l[k]? =some x→((T5 l).drop (k*3)).take 3=[x.1,(x.2.1:Int),(x.2.2:Int)]
 | [],k,x,h=>by simp at h
 | y::l,0,x,h=>by
   obtain rfl:y=x:=by simpa using h
   simp [T5]
 | y::l,k+1,x,h=>by
   have:=T6 l k x (by simpa using h)
   rw [show (k+1)*3=k*3+3 by omega]
   simp only [T5,List.flatMap_cons] at*
   rw [List.drop_append,List.drop_of_length_le (by simp)]
   simpa using this
theorem Yl(S:List Int)(A:List (Nat×Nat))(x:Nat×Nat)(h:A.length<S.length):S.zip (A++[x])=S.zip A++[(AJ S A.length,x)]:=by
 apply List.ext_getElem?
 intro i
 rcases Nat.lt_trichotomy i A.length with g|g|g
 ·rw [List.getElem?_append_left (by simp;omega)]
  simp only [List.zip,List.getElem?_zipWith]
  rw [List.getElem?_append_left g]
 ·subst g
  rw [List.getElem?_append_right (by simp;omega)]
  simp only [List.zip,List.getElem?_zipWith]
  rw [List.getElem?_append_right (by omega),Co S _ h,Nat.sub_self,show (List.zipWith Prod.mk S A).length=A.length by simp;omega,Nat.sub_self]
  rfl
 rw [List.getElem?_eq_none (by simp;omega),List.getElem?_eq_none (by simp;omega)]
theorem Oz(C S:List Int)(h:sm (cc C) 16=S.length):(Bw C S).length=S.length:=by
 simp [Bw,Fe,h]
theorem T4(C S:List Int)(h:sm (cc C) 16=S.length)(i:Nat)(hi:i<S.length):∃x,(Gd (cc C) 16)[i]? =some x∧(Bw C S)[i]? =some (AJ S i,x):=by
 have hl:i<(Gd (cc C) 16).length:=by rw [Fe];omega
 refine ⟨_,List.getElem?_eq_getElem hl,?_⟩
 simp only [Bw,List.zip,List.getElem?_zipWith,Co S i hi,List.getElem?_eq_getElem hl]
theorem Kr(C S:List Int)(x:Int×Nat×Nat)(hx:x∈Bw C S):x.1∈S∧x.2∈Gd (cc C) 16:=List.of_mem_zip (a:=x.1) (b:=x.2) hx
def symW(L:List (Int×Nat×Nat))(s:Int):Option (Nat×Nat):=(L.reverse.find? fun x=>decide (x.1=s)).map (·.2)
def codW(L:List (Int×Nat×Nat))(p:Int×Int):Option Int:=(L.reverse.find? fun x=>decide (p=((x.2.1:Int),(x.2.2:Int)))).map (·.1)
theorem Vc(L:List (Int×Nat×Nat))(x:Int×Nat×Nat)(s:Int):symW (L++[x]) s=if s=x.1 then some x.2 else symW L s:=by
 unfold symW
 rw [List.reverse_append,List.reverse_singleton,List.singleton_append,List.find?_cons]
 by_cases h:s=x.1
 ·simp [h]
 have:¬x.1=s:=fun e=>h e.symm
 simp [h,this]
theorem Ul(L:List (Int×Nat×Nat))(x:Int×Nat×Nat)(p:Int×Int):codW (L++[x]) p=if p=((x.2.1:Int),(x.2.2:Int)) then some x.1 else codW L p:=by
 unfold codW
 rw [List.reverse_append,List.reverse_singleton,List.singleton_append,List.find?_cons]
 by_cases h:p=((x.2.1:Int),(x.2.2:Int))
 ·simp [h]
 simp [h]
theorem FU{L:List (Int×Nat×Nat)}{s:Int}{y:Nat×Nat}(h:symW L s=some y):(s,y)∈L:=by
 unfold symW at h
 cases hf:L.reverse.find? fun x=>decide (x.1=s) with
 | none=>rw [hf] at h;cases h
 | some x=>
   rw [hf] at h
   have h1:=List.mem_of_find?_eq_some hf
   have h2:=List.find?_some hf
   simp only [Option.map_some,Option.some.injEq] at h
   simp only [decide_eq_true_eq] at h2
   subst h;subst h2
   simpa using h1
theorem Vb{L:List (Int×Nat×Nat)}{s:Int}(h:symW L s=none):∀x∈L,x.1≠s:=by
 unfold symW at h
 rw [Option.map_eq_none_iff,List.find?_eq_none] at h
 intro x hx
 simpa using h x (by simpa using hx)
theorem LE{L:List (Int×Nat×Nat)}{a b:Nat}{s:Int}(h:codW L ((a:Int),(b:Int))=some s):(s,a,b)∈L:=by
 unfold codW at h
 cases hf:L.reverse.find? fun x=>decide (((a:Int),(b:Int))=((x.2.1:Int),(x.2.2:Int))) with
 | none=>rw [hf] at h;cases h
 | some x=>
   rw [hf] at h
   have h1:=List.mem_of_find?_eq_some hf
   have h2:=List.find?_some hf
   simp only [Option.map_some,Option.some.injEq] at h
   simp only [decide_eq_true_eq,Prod.mk.injEq] at h2
   obtain ⟨s',a',b'⟩:=x
   simp only at h h2
   obtain ⟨h3,h4⟩:=h2
   have h5:a=a':=by omega
   have h6:b=b':=by omega
   subst h;subst h5;subst h6
   simpa using h1
theorem Uk{L:List (Int×Nat×Nat)}{a b:Nat}(h:codW L ((a:Int),(b:Int))=none):∀x∈L,x.2≠(a,b):=by
 unfold codW at h
 rw [Option.map_eq_none_iff,List.find?_eq_none] at h
 intro x hx
 have:=h x (by simpa using hx)
 intro e
 rw [e] at this
 simp at this
structure Cs(L:List (Int×Nat×Nat)):Prop where
 long:∀x∈L,1≤x.2.1∧x.2.1≤16∧x.2.2+1<2^x.2.1
 sym:∀x∈L,∀y∈L,x.1=y.1→x=y
 pre:∀x∈L,∀y∈L,x.2.1≤y.2.1→y.2.2/2^(y.2.1-x.2.1)=x.2.2→x=y
 range:∀x∈L,0≤x.1∧x.1<256
theorem Bu{C S:List Int}(h:A4 C S=0):Cs (Bw C S):=by
 obtain ⟨h1,h2,h3,h4,h5,h6⟩:=B8 h
 have idx:∀x∈Bw C S,∃i,i<S.length∧x.1=AJ S i∧(Gd (cc C) 16)[i]? =some x.2∧(Bw C S)[i]? =some x:=fun x hx=>by
  obtain ⟨i,hi,e⟩:=List.getElem_of_mem hx
  rw [Oz C S h2] at hi
  obtain ⟨y,e1,e2⟩:=T4 C S h2 i hi
  have e3:(Bw C S)[i]? =some x:=by rw [List.getElem?_eq_getElem (by rw [Oz C S h2];exact hi),e]
  rw [e2] at e3
  obtain rfl:(AJ S i,y)=x:=by simpa using e3
  exact ⟨i,hi,rfl,e1,e2⟩
 refine ⟨fun x hx=>?_,fun x hx y hy e=>?_,fun x hx y hy hl hp=>?_,fun x hx=>h4 _ (Kr C S x hx).1⟩
 ·have:=dm (cc C) h6 x.2 (Kr C S x hx).2
  exact ⟨this.2.1,this.2.2,this.1⟩
 ·obtain ⟨i,hi,ei,ci,wi⟩:=idx x hx
  obtain ⟨j,hj,ej,cj,wj⟩:=idx y hy
  have hij:i=j:=by
   rw [ei,ej] at e
   have gi:=Co S i hi
   have gj:=Co S j hj
   rw [e] at gi
   exact (List.getElem?_inj hi h5).1 (by rw [gi,gj])
  subst hij
  rw [wi] at wj
  simpa using wj
 obtain ⟨i,hi,ei,ci,wi⟩:=idx x hx
 obtain ⟨j,hj,ej,cj,wj⟩:=idx y hy
 by_cases hij:i=j
 ·subst hij;rw [wi] at wj;simpa using wj
 exact absurd hp (Uc (cc C) i j x.2 y.2 ci cj hij hl)
theorem Cs.symW{L:List (Int×Nat×Nat)}(h:Cs L){x:Int×Nat×Nat}(hx:x∈L):symW L x.1=some x.2:=by
 cases hs:Go.Proofs.YtohacgmhmbijmaaGreatDoor.symW L x.1 with
 | none=>exact absurd rfl (Vb hs x hx)
 | some y=>
   have:=h.sym _ (FU hs) x hx rfl
   rw [←this]
theorem Cs.codW{L:List (Int×Nat×Nat)}(h:Cs L){x:Int×Nat×Nat}(hx:x∈L):codW L ((x.2.1:Int),(x.2.2:Int))=some x.1:=by
 cases hs:Go.Proofs.YtohacgmhmbijmaaGreatDoor.codW L ((x.2.1:Int),(x.2.2:Int)) with
 | none=>exact absurd rfl (Uk hs x hx)
 | some y=>
   have:=h.pre _ (LE hs) x hx (Nat.le_refl _) (by simp)
   rw [←this]
end Go.Proofs.YtohacgmhmbijmaaGreatDoor
namespace Go.Proofs.YtohacgmhmbijmaaGreatDoor
attribute [local irreducible] Region.wanted
open Go.RowKit
set_option linter.unusedVariables false
set_option maxRecDepth 100000
set_option maxHeartbeats 8000000
def Cz{K:Type}(enc:K→Value)(x:K×Value×Nat):MapEntry:={key:=enc x.1,val:=x.2.1,born:=x.2.2}
def BI{K:Type}[DecidableEq K](k:K):List (K×Value×Nat)→Nat→Option (Nat×Value)
 | [],_=>none
 | x::l,i=>if k=x.1 then some (i,x.2.1) else BI k l (i+1)
structure FZ{K:Type}[DecidableEq K](P:Program)(kt:TypeId)(enc:K→Value):Prop where
 check:∀(w:World)(b:Bool)(k:K),(Instr.checkKey b 10000 kt (enc k)).run P w= .ok () w
 find:∀(w:World)(k:K)(l:List (K×Value×Nat)),(Instr.findKey kt (enc k) (l.map (Cz enc))).run P w= .ok (BI k l 0) w
 same:∀k,Instr.sameBits 10000 (enc k) (enc k)=true
def Hj{K:Type}[DecidableEq K](enc:K→Value)(w:World)(b:Nat)(f:K→Option Value):Prop:=
 ∃(l:List (K×Value×Nat)) (clock:Nat),w.heap[b]? =some (.map (l.map (Cz enc)).toArray clock)∧∀k,(BI k l 0).map (·.2)=f k
section
variable{K:Type}[DecidableEq K]{P:Program}{enc:K→Value}
theorem IY(k:K)(l:List (K×Value×Nat)):∀i,BI k l i=(BI k l 0).map fun x=>(x.1+i,x.2):=by
 induction l with
 | nil=>intro i;rfl
 | cons x l ih=>
   intro i
   simp only [BI]
   split
   ·simp
   rw [ih (i+1),ih (0+1)]
   cases BI k l 0 with
   | none=>rfl
   | some y=>simp;omega
theorem Mc(k:K)(l m:List (K×Value×Nat)):∀i,BI k (l++m) i=(BI k l i).or (BI k m (i+l.length)):=by
 induction l with
 | nil=>intro i;simp [BI]
 | cons x l ih=>
   intro i
   simp only [List.cons_append,BI]
   split
   ·simp
   rw [ih,List.length_cons,show i+1+l.length=i+(l.length+1) by omega]
theorem Md(k j:K)(v:Value):∀(l:List (K×Value×Nat))(n i:Nat)(u:Value),BI k l n=some (n+i,u)→
 (BI j (l.modify i fun e=>(k,v,e.2.2)) n).map (·.2)=if j=k then some v else (BI j l n).map (·.2):=by
 intro l
 induction l with
 | nil=>intro n i u h;simp [BI] at h
 | cons x l ih=>
   intro n i u h
   simp only [BI] at h
   split at h
   ·rename_i hk
    simp only [Option.some.injEq,Prod.mk.injEq] at h
    have hi:i=0:=by omega
    subst hi
    simp only [List.modify_zero_cons,BI]
    by_cases hj:j=k
    ·simp [hj]
    have:¬j=x.1:=fun e=>hj (e.trans hk.symm)
    simp [hj,this]
   rename_i hk
   cases i with
   | zero=>
     exfalso
     rw [IY] at h
     cases hf:BI k l 0 with
     | none=>simp [hf] at h
     | some y=>simp [hf] at h;omega
   | succ i=>
     simp only [List.modify_succ_cons,BI]
     have h':BI k l (n+1)=some (n+1+i,u):=by rw [h];congr 2;omega
     split
     ·rename_i hj
      have:¬j=k:=fun e=>hk (e▸ hj)
      simp [this]
     exact ih (n+1) i u h'
theorem Hj.new(w:World):Hj enc (w.alloc (.map #[] 0)) w.heap.size (fun _=>none):=
 ⟨[],0,heap_alloc_new w _,fun _=>rfl⟩
theorem Hj.lt{w:World}{b:Nat}{f:K→Option Value}(h:Hj enc w b f):b<w.heap.size:=by
 obtain ⟨l,c,h,_⟩:=h
 exact (Array.getElem?_eq_some_iff.1 h).1
theorem Hj.of_heap{w w':World}{b:Nat}{f:K→Option Value}(h:Hj enc w b f)(hh:w'.heap[b]? =w.heap[b]?):Hj enc w' b f:=by
 obtain ⟨l,c,h,hf⟩:=h
 exact ⟨l,c,by rw [hh];exact h,hf⟩
theorem Jj{w:World}{b:Nat}{es:Array MapEntry}{c:Nat}(h:w.heap[b]? =some (.map es c)):(getObj b:Sem Obj).run P w= .ok (.map es c) w:=by
 simp [getObj,Sem.run,h]
theorem Hj.lookup{w:World}{b:Nat}{f:K→Option Value}{mt kt et:TypeId}(h:Hj enc w b f)(hm:P.underlying mt=some (.map kt et))(law:FZ P kt enc)(k:K)(ok:Bool)
 {z:Value} (hz:∀w,(zeroValue et).run P w= .ok z w):
 (Instr.lookup mt (.map (some b)) (enc k) ok).run P w= .ok (if ok then .tuple #[(f k).getD z, .bool (f k).isSome] else (f k).getD z) w:=by
 obtain ⟨l,c,hb,hf⟩:=h
 have hfk:=hf k
 simp only [Instr.lookup,Sem.run_bind,run_underlying hm,Result.andThen_ok,Jj hb,Sem.run_pure,law.check,law.find]
 cases hfi:BI k l 0 with
 | none=>
   rw [hfi] at hfk
   simp only [Option.map_none] at hfk
   rw [←hfk]
   simp [hz]
 | some y=>
   rw [hfi] at hfk
   simp only [Option.map_some] at hfk
   rw [←hfk]
   simp
theorem Hj.update{w:World}{b:Nat}{f:K→Option Value}{mt kt et:TypeId}(h:Hj enc w b f)(hm:P.underlying mt=some (.map kt et))(law:FZ P kt enc)(k:K)(v:Value):
 ∃w',(Instr.mapUpdate mt (.map (some b)) (enc k) v).run P w= .ok () w'∧Hj enc w' b (fun j=>if j=k then some v else f j)∧
  (∀W,W.heap.size≤b→Af W w→Af W w')∧∀i,i≠b→w'.heap[i]? =w.heap[i]? :=by
 obtain ⟨l,c,hb,hf⟩:=h
 have hlt:b<w.heap.size:=(Array.getElem?_eq_some_iff.1 hb).1
 have hset:∀o:Obj,(setObj b o).run P w= .ok () {w with heap:=w.heap.setIfInBounds b o}:=by
  intro o
  simp [setObj,Sem.run,hb]
 have hext:∀(o:Obj) W,W.heap.size≤b→Af W w→Af W {w with heap:=w.heap.setIfInBounds b o}:=fun o W hW hE=>
  Below.trans hE ⟨rfl,rfl,rfl,by simp,fun i hi=>by simp only [Array.getElem?_setIfInBounds];rw [if_neg (by omega)]⟩
 have hoth:∀(o:Obj) i,i≠b→({w with heap:=w.heap.setIfInBounds b o}:World).heap[i]? =w.heap[i]? :=fun o i hi=>by
  simp only [Array.getElem?_setIfInBounds];rw [if_neg (fun e=>hi e.symm)]
 have hnew:∀(o:Obj),({w with heap:=w.heap.setIfInBounds b o}:World).heap[b]? =some o:=fun o=>by
  simp [hlt]
 cases hfi:BI k l 0 with
 | none=>
   refine ⟨{w with heap:=w.heap.setIfInBounds b (.map ((l++[(k,v,c)]).map (Cz enc)).toArray (c+1))},?_,⟨l++[(k,v,c)],c+1,hnew _,fun j=>?_⟩,hext _,hoth _⟩
   ·simp only [Instr.mapUpdate,Sem.run_bind,run_underlying hm,Result.andThen_ok,Jj hb,law.check,law.find,hfi]
    rw [hset]
    congr 4
    simp [Cz]
   show _=if j=k then some v else f j
   rw [Mc,←hf j]
   by_cases hj:j=k
   ·subst hj;simp [hfi,BI]
   cases BI j l 0<;>simp [BI,hj]
 | some y=>
   obtain ⟨i,u⟩:=y
   have hmod:=fun j=>Md k j v l 0 i u (by rw [hfi];simp)
   have hik:∃e,l[i]? =some e∧e.1=k:=by
    have:∀(l:List (K×Value×Nat)) n i u,BI k l n=some (n+i,u)→∃e,l[i]? =some e∧e.1=k:=by
     intro l
     induction l with
     | nil=>intro n i u h;simp [BI] at h
     | cons x l ih=>
       intro n i u h
       simp only [BI] at h
       split at h
       ·rename_i hk
        simp only [Option.some.injEq,Prod.mk.injEq] at h
        have hi:i=0:=by omega
        subst hi
        exact ⟨x,rfl,hk.symm⟩
       cases i with
       | zero=>
         exfalso
         rw [IY] at h
         cases hf:BI k l 0 with
         | none=>simp [hf] at h
         | some y=>simp [hf] at h;omega
       | succ i=>exact ih (n+1) i u (by rw [h];congr 2;omega)
    exact this l 0 i u (by rw [hfi];simp)
   obtain ⟨e,he,hek⟩:=hik
   refine ⟨{w with heap:=w.heap.setIfInBounds b (.map ((l.modify i fun e=>(k,v,e.2.2)).map (Cz enc)).toArray c)},?_,⟨l.modify i fun e=>(k,v,e.2.2),c,hnew _,fun j=>?_⟩,hext _,hoth _⟩
   ·simp only [Instr.mapUpdate,Sem.run_bind,run_underlying hm,Result.andThen_ok,Jj hb,law.check,law.find,hfi]
    have hold:(((l.map (Cz enc)).toArray[i]?).map (·.key)).getD (enc k)=enc k:=by simp [he,Cz,hek]
    rw [hold]
    simp only [Instr.keyThatStays,law.same,if_true,Sem.run_pure,Result.andThen_ok]
    rw [hset]
    congr 4
    apply Array.ext_getElem?
    intro j
    simp only [Array.getElem?_modify,List.getElem?_toArray,List.getElem?_map,List.getElem?_modify]
    by_cases hij:i=j
    ·subst hij;simp [he,Cz]
    simp [hij]
   rw [hmod j,hf j]
end
def ik(n:Int):Value:= .int .i64 n
theorem CR{P:Program}{kt:TypeId}(h:P.underlying kt=some (.int .i64)):FZ P kt ik where
 check w b k:=by
  unfold ik
  rw [show (10000:Nat)=9999+1 from rfl,Instr.checkKey]
  simp [run_underlying h]
 find w k l:=by
  have key:∀(l:List (Int×Value×Nat)) i,Instr.findNow (.int .i64) (ik k) (l.map (Cz ik)) i=some (BI k l i):=by
   intro l
   induction l with
   | nil=>intro i;rfl
   | cons x l ih=>
     intro i
     simp only [List.map_cons,Instr.findNow,BI,Cz,ik,Instr.sameNow,if_true]
     by_cases hx:k=x.1
     ·simp [hx]
     have:(k==x.1)=false:=by simpa using hx
     simp only [this,hx,if_false]
     exact ih (i+1)
  simp [Instr.findKey,run_underlying h,key]
 same k:=by unfold ik;rw [Instr.sameBits.eq_2];simp
section
variable{K:Type}[DecidableEq K]{P:Program}{enc:K→Value}
end
inductive Ae where
 | ints (l:List Int)
 | val (v:Value)
def Ae.cells:Ae→List Value
 | .ints l=>l.map (Value.int .i64)
 | .val v=>[v]
def AF:List Ae→List Value
 | []=>[]
 | p::ps=>p.cells++AF ps
def prt(g:Nat)(ps:List Ae):Aq:=blk g (AF ps)
inductive Q7:List Ae→Nat→List Int→Nat→Prop
 | head {l:List Int} {ps:List Ae} {off n:Nat} (hn:Ac l n) (h:off<n):Q7 (.ints l::ps) off l off
 | skipI {l:List Int} {ps:List Ae} {off n o2 r:Nat} {l':List Int} (hn:Ac l n) (h:n≤off) (ho:off-n=o2) (t:Q7 ps o2 l' r):Q7 (.ints l::ps) off l' r
 | skipV {v:Value} {ps:List Ae} {off r:Nat} {l':List Int} (t:Q7 ps off l' r):Q7 (.val v::ps) (off+1) l' r
theorem Q7.get{ps:List Ae}{off r:Nat}{l:List Int}(h:Q7 ps off l r):(AF ps)[off]? =some (.int .i64 (AJ l r)):=by
 induction h with
 | @head l ps off n hn h=>
   have hl:=hn.out
   rw [AF,Ae.cells,List.getElem?_append_left (by simp;omega),List.getElem?_map,Co l off (by omega)];rfl
 | @skipI l ps off n o2 r l' hn h ho t ih=>
   have hl:=hn.out
   rw [AF,Ae.cells,List.getElem?_append_right (by simp;omega),List.length_map,hl,ho,ih]
 | @skipV v ps off r l' t ih=>
   rw [AF,Ae.cells,List.singleton_append,List.getElem?_cons_succ,ih]
inductive Jp:List Ae→Nat→Value→Prop
 | head {v:Value} {ps:List Ae}:Jp (.val v::ps) 0 v
 | skipI {l:List Int} {ps:List Ae} {off n o2:Nat} {v:Value} (hn:Ac l n) (h:n≤off) (ho:off-n=o2) (t:Jp ps o2 v):Jp (.ints l::ps) off v
 | skipV {u v:Value} {ps:List Ae} {off:Nat} (t:Jp ps off v):Jp (.val u::ps) (off+1) v
theorem Jp.get{ps:List Ae}{off:Nat}{v:Value}(h:Jp ps off v):(AF ps)[off]? =some v:=by
 induction h with
 | head=>rfl
 | @skipI l ps off n o2 v hn h ho t ih=>
   have hl:=hn.out
   rw [AF,Ae.cells,List.getElem?_append_right (by simp;omega),List.length_map,hl,ho,ih]
 | @skipV u v ps off t ih=>
   rw [AF,Ae.cells,List.singleton_append,List.getElem?_cons_succ,ih]
inductive Bi:List Ae→Nat→List Ae→Prop
 | nil {ps:List Ae}:Bi ps 0 []
 | ints {l:List Int} {ps ss:List Ae} {n m m2:Nat} (hn:Ac l n) (h:n≤m) (hm:m-n=m2) (t:Bi ps m2 ss):Bi (.ints l::ps) m (.ints l::ss)
 | val {v:Value} {ps ss:List Ae} {m:Nat} (t:Bi ps m ss):Bi (.val v::ps) (m+1) (.val v::ss)
theorem Bi.take{ps ss:List Ae}{m:Nat}(h:Bi ps m ss):(AF ps).take m=AF ss∧(AF ss).length=m:=by
 induction h with
 | nil=>exact ⟨by simp [AF],rfl⟩
 | @ints l ps ss n m m2 hn h hm t ih=>
   have hl:=hn.out
   refine ⟨?_,by simp only [AF,Ae.cells,List.length_append,List.length_map,ih.2];omega⟩
   rw [AF,AF,Ae.cells,List.take_append,List.length_map,hl,hm,ih.1,List.take_of_length_le (by simp;omega)]
 | @val v ps ss m t ih=>
   exact ⟨by simp only [AF,Ae.cells,List.singleton_append,List.take_succ_cons,ih.1],by simp only [AF,Ae.cells,List.singleton_append,List.length_cons,ih.2]⟩
inductive GZ:List Ae→Nat→Nat→List Ae→Prop
 | head {ps ss:List Ae} {m:Nat} (h:Bi ps m ss):GZ ps 0 m ss
 | skipI {l:List Int} {ps ss:List Ae} {off n o2 m:Nat} (hn:Ac l n) (h:n≤off) (ho:off-n=o2) (t:GZ ps o2 m ss):GZ (.ints l::ps) off m ss
 | skipV {u:Value} {ps ss:List Ae} {off m:Nat} (t:GZ ps off m ss):GZ (.val u::ps) (off+1) m ss
theorem GZ.get{ps ss:List Ae}{off m:Nat}(h:GZ ps off m ss):((AF ps).drop off).take m=AF ss∧(AF ss).length=m:=by
 induction h with
 | head h=>rw [List.drop_zero];exact h.take
 | @skipI l ps ss off n o2 m hn h ho t ih=>
   have hl:=hn.out
   rw [AF,Ae.cells,List.drop_append,List.length_map,hl,ho,List.drop_of_length_le (by simp;omega),List.nil_append];exact ih
 | @skipV u ps ss off m t ih=>
   rw [AF,Ae.cells,List.singleton_append,List.drop_succ_cons];exact ih
inductive SU:List Ae→Nat→Nat→List Int→Prop
 | head {l:List Int} {ps:List Ae} {n:Nat} (hn:Ac l n):SU (.ints l::ps) 0 n l
 | skipI {l l':List Int} {ps:List Ae} {off n o2 m:Nat} (hn:Ac l n) (h:n≤off) (ho:off-n=o2) (t:SU ps o2 m l'):SU (.ints l::ps) off m l'
 | skipV {u:Value} {l':List Int} {ps:List Ae} {off m:Nat} (t:SU ps off m l'):SU (.val u::ps) (off+1) m l'
theorem SU.get{ps:List Ae}{off m:Nat}{l:List Int}(h:SU ps off m l):((AF ps).drop off).take m=l.map (Value.int .i64)∧l.length=m:=by
 induction h with
 | @head l ps n hn=>
   have hl:=hn.out
   rw [List.drop_zero,AF,Ae.cells,List.take_append,List.length_map,hl,Nat.sub_self,List.take_of_length_le (by simp;omega)]
   exact ⟨by simp,rfl⟩
 | @skipI l l' ps off n o2 m hn h ho t ih=>
   have hl:=hn.out
   rw [AF,Ae.cells,List.drop_append,List.length_map,hl,ho,List.drop_of_length_le (by simp;omega),List.nil_append];exact ih
 | @skipV u l' ps off m t ih=>
   rw [AF,Ae.cells,List.singleton_append,List.drop_succ_cons];exact ih
section
variable{P:Program}{W w:World}{rs rs':List Aq}{Q:Exit→Act→World→Prop}{K:Act→World→Prop}{o:Oper}{a:Act}
theorem Nj(hS:St W w rs)(ty:TypeId)(x:Operand)(ho:o.op= .load ty x)(g off:Nat)(hx:a.eval x= .pointer (some ⟨g,off,none⟩))(h1:MQ P ty)(ps:List Ae)(hp:AU (prt g ps) rs rs')
 (l:List Int) (r:Nat) (hi:Q7 ps off l r) (h:K (a.put o.dst (.int .i64 (AJ l r))) w):o.wp P a w K Q:=
 AZ hS ty x ho g off hx h1 _ hp _ hi.get h
theorem SR(hS:St W w rs)(ty:TypeId)(x:Operand)(ho:o.op= .load ty x)(g off:Nat)(hx:a.eval x= .pointer (some ⟨g,off,none⟩))(h1:MQ P ty)(ps:List Ae)(hp:AU (prt g ps) rs rs')
 (l:List Int) (r:Nat) (hi:Q7 ps off l r) (z:Int) (hz:AJ l r=z) (h:K (a.put o.dst (.int .i64 z)) w):o.wp P a w K Q:=
 Nj hS ty x ho g off hx h1 ps hp l r hi (by rw [hz];exact h)
theorem EP(hS:St W w rs)(ty:TypeId)(x:Operand)(ho:o.op= .load ty x)(g off:Nat)(hx:a.eval x= .pointer (some ⟨g,off,none⟩))(h1:MQ P ty)(ps:List Ae)(hp:AU (prt g ps) rs rs')
 (v:Value) (hi:Jp ps off v) (h:K (a.put o.dst v) w):o.wp P a w K Q:=
 AZ hS ty x ho g off hx h1 _ hp _ hi.get h
theorem Je{g off m:Nat}{ps:List Ae}{cs:List Value}(hS:St W w rs)(hp:AU (prt g ps) rs rs')(h:((AF ps).drop off).take m=cs):w.rangeAt g off cs:=fun j v hv=>by
 rw [←h,List.getElem?_take] at hv
 split at hv
 ·rw [List.getElem?_drop] at hv
  rw [(St.blk hS hp).1.cell];simpa using hv
 cases hv
theorem Nl(hS:St W w rs)(ty:TypeId)(x:Operand)(ho:o.op= .load ty x)(g off:Nat)(hx:a.eval x= .pointer (some ⟨g,off,none⟩))(m:Nat)(h1:E7 P ty m)(ps:List Ae)(hp:AU (prt g ps) rs rs')
 (l:List Int) (hi:SU ps off m l) (h:K (a.put o.dst (.agg (iv l))) w):o.wp P a w K Q:=
 En ty x ho g off hx m h1 (l.map (Value.int .i64)) (by simpa using hi.get.2) (Je hS hp hi.get.1) h
theorem Cq(hS:St W w rs)(ty:TypeId)(x:Operand)(ho:o.op= .load ty x)(g off:Nat)(hx:a.eval x= .pointer (some ⟨g,off,none⟩))(m:Nat)(h1:E7 P ty m)(ps:List Ae)(hp:AU (prt g ps) rs rs')
 (ss:List Ae) (hi:GZ ps off m ss) (h:K (a.put o.dst (.agg (AF ss).toArray)) w):o.wp P a w K Q:=
 En ty x ho g off hx m h1 (AF ss) hi.get.2 (Je hS hp hi.get.1) h
theorem I9(hS:St W w rs)(ty:TypeId)(x:Operand)(ho:o.op= .box ty x)(ps:List Ae)(hx:a.eval x= .agg (AF ps).toArray)
 (h:∀g w',St W w' (prt g ps::rs)→K (a.put o.dst (.pointer (some ⟨g,0,none⟩))) w'):o.wp P a w K Q:=
 CL hS ty x ho (AF ps) hx h
end
inductive Kx(z:Int):List Ae→Nat→List Ae→Prop
 | head {l:List Int} {ps:List Ae} {off n:Nat} (hn:Ac l n) (h:off<n):Kx z (.ints l::ps) off (.ints (l.set off z)::ps)
 | skipI {l:List Int} {ps ps':List Ae} {off n o2:Nat} (hn:Ac l n) (h:n≤off) (ho:off-n=o2) (t:Kx z ps o2 ps'):Kx z (.ints l::ps) off (.ints l::ps')
 | skipV {v:Value} {ps ps':List Ae} {off:Nat} (t:Kx z ps off ps'):Kx z (.val v::ps) (off+1) (.val v::ps')
theorem Kx.eq{z:Int}{ps ps':List Ae}{off:Nat}(h:Kx z ps off ps'):off<(AF ps).length∧AF ps'=(AF ps).set off (.int .i64 z):=by
 induction h with
 | @head l ps off n hn h=>
   have hl:=hn.out
   refine ⟨by simp [AF,Ae.cells];omega,?_⟩
   rw [AF,AF,Ae.cells,Ae.cells,List.set_append_left _ _ (by simp;omega),List.map_set]
 | @skipI l ps ps' off n o2 hn h ho t ih=>
   have hl:=hn.out
   refine ⟨by simp [AF,Ae.cells];omega,?_⟩
   rw [AF,AF,Ae.cells,List.set_append_right _ _ (by simp;omega),List.length_map,hl,ho,ih.2]
 | @skipV v ps ps' off t ih=>
   refine ⟨by simp [AF,Ae.cells];omega,?_⟩
   rw [AF,AF,Ae.cells,List.singleton_append,List.singleton_append,List.set_cons_succ,ih.2]
inductive IP(z:Value):List Ae→Nat→List Ae→Prop
 | head {v:Value} {ps:List Ae}:IP z (.val v::ps) 0 (.val z::ps)
 | skipI {l:List Int} {ps ps':List Ae} {off n o2:Nat} (hn:Ac l n) (h:n≤off) (ho:off-n=o2) (t:IP z ps o2 ps'):IP z (.ints l::ps) off (.ints l::ps')
 | skipV {v:Value} {ps ps':List Ae} {off:Nat} (t:IP z ps off ps'):IP z (.val v::ps) (off+1) (.val v::ps')
theorem IP.eq{z:Value}{ps ps':List Ae}{off:Nat}(h:IP z ps off ps'):off<(AF ps).length∧AF ps'=(AF ps).set off z:=by
 induction h with
 | head=>exact ⟨by simp [AF,Ae.cells],rfl⟩
 | @skipI l ps ps' off n o2 hn h ho t ih=>
   have hl:=hn.out
   refine ⟨by simp [AF,Ae.cells];omega,?_⟩
   rw [AF,AF,Ae.cells,List.set_append_right _ _ (by simp;omega),List.length_map,hl,ho,ih.2]
 | @skipV v ps ps' off t ih=>
   refine ⟨by simp [AF,Ae.cells];omega,?_⟩
   rw [AF,AF,Ae.cells,List.singleton_append,List.singleton_append,List.set_cons_succ,ih.2]
theorem ET.of{v:Value}:∀{l:List Value} {i:Nat},i<l.length→ET v i l (l.set i v)
 | [],i,h=>by simp at h
 | x::l,0,_=> .head
 | x::l,i+1,h=> .tail (ET.of (by simpa using h))
section
variable{P:Program}{W w:World}{rs rs':List Aq}{Q:Exit→Act→World→Prop}{K:Act→World→Prop}{o:Oper}{a:Act}
theorem SS(hS:St W w rs)(ty:TypeId)(x y:Operand)(ho:o.op= .store ty x y)(g off:Nat)(hx:a.eval x= .pointer (some ⟨g,off,none⟩))(h1:MQ P ty)(ps ps':List Ae)(hp:AU (prt g ps) rs rs')
 (z:Int) (hy:a.eval y= .int .i64 z) (hi:Kx z ps off ps') (hd:o.dst=none) (h:∀w',St W w' (prt g ps'::rs')→K a w'):o.wp P a w K Q:=by
 obtain ⟨h2,h3⟩:=hi.eq
 refine Bg hS ty x y ho g off hx h1 (AF ps) (AF ps') hp (.int .i64 z) (.int hy) rfl ?_ hd h
 rw [h3];exact ET.of h2
theorem IJ(hS:St W w rs)(ty:TypeId)(x y:Operand)(ho:o.op= .store ty x y)(g off:Nat)(hx:a.eval x= .pointer (some ⟨g,off,none⟩))(h1:MQ P ty)(ps ps':List Ae)(hp:AU (prt g ps) rs rs')
 (z:Value) (hy:DU (a.eval y) z) (hz:z.oneCell'=true) (hi:IP z ps off ps') (hd:o.dst=none) (h:∀w',St W w' (prt g ps'::rs')→K a w'):o.wp P a w K Q:=by
 obtain ⟨h2,h3⟩:=hi.eq
 refine Bg hS ty x y ho g off hx h1 (AF ps) (AF ps') hp z hy hz ?_ hd h
 rw [h3];exact ET.of h2
def ON:Ae→Bool
 | .ints _=>true
 | .val v=>v.oneCell'
theorem Gl:∀{ps:List Ae},ps.all ON=true→(AF ps).all (·.oneCell')=true
 | [],_=>rfl
 | .ints l::ps,h=>by
   simp only [List.all_cons,Bool.and_eq_true] at h
   simp only [AF,Ae.cells,List.all_append,Bool.and_eq_true]
   refine ⟨?_,Gl h.2⟩
   rw [List.all_eq_true];intro u hu;obtain ⟨x,_,rfl⟩:=List.mem_map.1 hu;rfl
 | .val v::ps,h=>by
   simp only [List.all_cons,Bool.and_eq_true] at h
   simp only [AF,Ae.cells,List.all_append,Bool.and_eq_true]
   exact ⟨by simpa [ON] using h.1,Gl h.2⟩
theorem Fs(hS:St W w rs)(ty:TypeId)(x y:Operand)(ho:o.op= .store ty x y)(g:Nat)(hx:a.eval x= .pointer (some ⟨g,0,none⟩))(m:Nat)(h1:E7 P ty m)(ps ps':List Ae)(hp:AU (prt g ps) rs rs')
 (hy:a.eval y= .agg (AF ps').toArray) (hn:Bi ps m ps) (hn':Bi ps' m ps') (hv:ps'.all ON=true) (hd:o.dst=none) (h:∀w',St W w' (prt g ps'::rs')→K a w'):o.wp P a w K Q:=
 Cb hS ty x y ho g hx m h1 (AF ps) (AF ps') hp hy hn.take.2 hn'.take.2 (Gl hv) hd h
theorem Gw(hS:St W w rs)(ty:TypeId)(ho:o.op= .alloc ty)(ps:List Ae)(hz:∀w,(zeroValue ty).run P w= .ok (.agg (AF ps).toArray) w)
 (h:∀g w',St W w' (prt g ps::rs)→K (a.put o.dst (.pointer (some ⟨g,0,none⟩))) w'):o.wp P a w K Q:=
 B9 hS ty ho _ (AF ps) hz rfl h
end
end Go.Proofs.YtohacgmhmbijmaaGreatDoor
