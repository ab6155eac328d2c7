/- What the laws FrameThree need, part 4. -/
import Derived.Test.YtohacgmhmbijmaaGreatDoorBaseTZ1
import Derived.Test.YtohacgmhmbijmaaGreatDoorBaseTZ2
import Derived.Test.YtohacgmhmbijmaaGreatDoorBaseTZ3
import Derived.ProofKit
import Derived.OpenShut
import Derived.ChangeOld
import Derived.Deep.Slices
namespace Go.Proofs.YtohacgmhmbijmaaGreatDoor
attribute [local irreducible] Region.wanted
open Go.RowKit
set_option linter.unusedVariables false
set_option maxRecDepth 100000
set_option maxHeartbeats 8000000
theorem UT(a b A B:Int)(ha: -A≤a∧a≤A)(hb: -B≤b∧b≤B): -(A*B)≤a*b∧a*b≤A*B:=by
 have hA:0≤A:=by omega
 have hB:0≤B:=by omega
 have h1:(a*b).natAbs≤(A*B).natAbs:=by
  rw [Int.natAbs_mul,Int.natAbs_mul];exact Nat.mul_le_mul (by omega) (by omega)
 have h2:0≤A*B:=Int.mul_nonneg hA hB
 omega
def TJ(f:Nat→Int):Nat→Int
 | 0=>0
 | n+1=>TJ f n+f n
theorem YY(f:Nat→Int)(B:Int)(n:Nat)(h:∀i,i<n→ -B≤f i∧f i≤B): -(n*B)≤TJ f n∧TJ f n≤n*B:=by
 induction n with
 | zero=>simp [TJ]
 | succ n ih=>
   have h1:=ih fun i hi=>h i (by omega)
   have h2:=h n (by omega)
   have e:((n+1:Nat):Int)*B=n*B+B:=by push_cast;rw [Int.add_mul,Int.one_mul]
   rw [e];simp only [TJ];omega
structure Vu(K:FuncId)(cf:Int→Int→Int):Prop where
 call:∀(args:Array Value)(w:World),(callFunc K args).run Tryz.prog w= .ok (.enter K args) w
 run:∀(i k:Nat)(w:World),i<8→k<8→Calls Tryz.prog K #[.int .i64 i, .int .i64 k] w fun e w'=>e= .returned (.int .i64 (cf i k))∧Al w w'
 bd:∀i k:Int,-4096≤cf i k∧cf i k≤4096
def Wa(b:List Int)(cf:Int→Int→Int)(p k:Nat):Int:=AK b (8*(p%8)+k)*cf (p/8:Nat) k
def cX(b:List Int)(cf:Int→Int→Int)(p:Nat):Int:=TJ (Wa b cf p) 8
def PH(b:List Int)(cf:Int→Int→Int):List Int:=Do 64 (cX b cf)
def Vn(b:List Int)(cf:Int→Int→Int)(r i k p:Nat):Int:=if p%8<r∨p%8=r∧p/8<i then cX b cf p else if p%8=r∧p/8=i then TJ (Wa b cf p) k else 0
theorem LV(w0:World)(b:List Int)(K:FuncId)(cf:Int→Int→Int)(hK:Vu K cf)(hb:Ap b 64)(hB:∀i,-2000000000≤AK b i∧AK b i≤2000000000):
 Calls Tryz.prog 116 #[.agg (iv b), .func (.func K) #[] #[]] w0 fun e w=>e= .returned (.agg (iv (PH b cf)))∧Al w0 w:=by
 have hS:=St.start w0
 have HK:=AD hK
 have HB:=AD hB
 clear hK hB
 go_enter Tryz.func116,Tryz.ntmps116
 repeat' (first
  | refine X1 ?_|refine MD 2 ?_;clear hS;intro g2 w hS|refine JL 4 ?_;clear hS;intro g4 w hS|refine AG ?_;go_step|fail)
 go_loopg [8] 8 (fun gk kv w=>∃(r:Nat) (o:List Int),gk+r=8∧kv= .int .i64 r∧(∀p,p<64→AK o p=Vn b cf r 0 0 p)∧St w0 w [arr g4 64 o,arr g2 64 b])
 case atStart=>exact ⟨0,_,rfl,rfl,fun p hp=>by rw [Du];unfold Vn;rw [if_neg (by omega)];split<;>rfl,hS.sub AV⟩
 case round=>
  clear hS
  obtain ⟨r,o,hr,rfl,ho,hS⟩:=hrel
  have HO:=AD ho
  clear ho
  by_cases hlt:r<8
  ·obtain ⟨gk1,hgk1⟩:∃x,x=gk:=⟨_,rfl⟩
   subst hgk1
   repeat' (first
    | refine X0 ?_|refine X2 ?_|refine AG ?_;go_step|fail)
   go_loopg [11] 8 (fun gk kv w=>∃(i:Nat) (o:List Int),gk+i=8∧kv= .int .i64 i∧(∀p,p<64→AK o p=Vn b cf r i 0 p)∧St w0 w [arr g4 64 o,arr g2 64 b])
   case atStart=>exact ⟨0,o,rfl,rfl,HO.out,hS.sub AV⟩
   case round=>
    clear hS HO
    obtain ⟨i,o,hi,rfl,ho,hS⟩:=hrel
    have HO:=AD ho
    clear ho
    by_cases hlt2:i<8
    ·obtain ⟨gk2,hgk2⟩:∃x,x=gk:=⟨_,rfl⟩
     subst hgk2
     repeat' (first
      | refine X0 ?_|refine X2 ?_|refine AG ?_;go_step|fail)
     go_loopg [14] 8 (fun gk kv w=>∃(k:Nat) (o:List Int),gk+k=8∧kv= .int .i64 k∧(∀p,p<64→AK o p=Vn b cf r i k p)∧St w0 w [arr g4 64 o,arr g2 64 b])
     case atStart=>exact ⟨0,o,rfl,rfl,HO.out,hS.sub AV⟩
     case round=>
      clear hS HO
      obtain ⟨k,o,hk,rfl,ho,hS⟩:=hrel
      have HO:=AD ho
      have hop:=ho (8*i+r) (by omega)
      clear ho
      by_cases hlt3:k<8
      ·obtain ⟨cv,hcv⟩:∃cv,cf (i:Nat) (k:Nat)=cv:=⟨_,rfl⟩
       have hc:=HK.out.bd (i:Nat) (k:Nat)
       rw [hcv] at hc
       have hbb:=HB.out (8*r+k)
       obtain ⟨m0,m1⟩:=UT (AK b (8*r+k)) cv 2000000000 4096 (by omega) (by omega)
       have hop2:AK o (8*i+r)=TJ (Wa b cf (8*i+r)) k:=by
        rw [hop];unfold Vn;rw [if_neg (by omega),if_pos (by omega)]
       have hsb: -(k*8192000000000)≤TJ (Wa b cf (8*i+r)) k∧TJ (Wa b cf (8*i+r)) k≤k*8192000000000:=YY _ _ _ fun j hj=>by
        have h1:=HK.out.bd (((8*i+r)/8:Nat)) j
        have h2:=HB.out (8*((8*i+r)%8)+j)
        have:=UT (AK b (8*((8*i+r)%8)+j)) (cf (((8*i+r)/8:Nat)) j) 2000000000 4096 (by omega) (by omega)
        unfold Wa;omega
       have hob: -70000000000000≤AK o (8*i+r)∧AK o (8*i+r)≤70000000000000:=by rw [hop2];omega
       have HN:Hid (AK o (8*i+r)+AK b (8*r+k)*cv=TJ (Wa b cf (8*i+r)) (k+1)):=by
        unfold Hid;rw [hop2,TJ,Wa,show (8*i+r)%8=r by omega,show (8*i+r)/8=i by omega,hcv]
       have HCV:=AD hcv
       clear hop hop2 hsb hcv
       repeat' (first
        | refine X0 ?_|refine X2 ?_|refine AG ?_;go_step|fail)
       refine AQ [19] (fun w=>St w0 w [arr g4 64 o,arr g2 64 b]) AA ?_
       replace hS:=hS.drew
       focus
        refine Ab 0 ?_
        refine YM 1 ?_
        refine Ab 2 ?_
        refine Vm 3 ?_
        refine cV 4 ?_
        refine dQ 5 [17,18,19] ?_
        refine Ab 6 ?_
        refine YM 7 ?_
        refine Ab 8 ?_
        refine Vm 9 ?_
        refine cV 10 ?_
        refine dQ 11 [16,17,18,19] ?_
        refine Ab 12 ?_
        refine Ab 13 ?_
        refine Ab 14 ?_
        refine Aa 15 ?_
        refine BQ (f:=K) rfl rfl HK.out.call (HK.out.run i k _ (by omega) (by omega)) ?_;rintro e w ⟨rfl,hE⟩;replace hS:=hS.ext hE;clear hE;rw [HCV.out];refine ⟨_,rfl,?_⟩
        refine ⟨fun _ _=>hS.sub AV,?_⟩
        refine AF ?_
        go_step
        refine YM 16 ?_
        refine Vm 17 ?_
        refine cV 18 ?_
        refine Aa 19 ?_
        (refine Gu hS 3 _ _ rfl _ _ rfl (AH rfl) _ _ AJ _ (by rfl) (by omega) rfl ?_;clear hS;intro w hS)
        refine ⟨fun h=>absurd (by decide) h,?_⟩
        refine AE AA ?_ _
       repeat' (first
        | refine X1 ?_|refine X7 ?_|refine AG ?_;go_step|fail)
       go_roundg (gk-1)
       case measure=>omega
       case rel=>
        have hol:=(hS.arr (g:=g4) (n:=64) AJ).2
        rw [List.length_set] at hol
        refine ⟨k+1,_,by omega,by go_num,fun p hp=>?_,hS.sub AV⟩
        rw [CL o (8*i+r) p _ (by omega)]
        split
        ·rename_i e
         subst e
         rw [HN.out];unfold Vn;rw [if_neg (by omega),if_pos (by omega)]
        rename_i e
        rw [HO.out p hp];unfold Vn
        by_cases h1:p%8<r∨p%8=r∧p/8<i
        ·rw [if_pos h1,if_pos h1]
        rw [if_neg h1,if_neg h1,if_neg (by omega),if_neg (by omega)]
      obtain rfl:k=8:=by omega
      repeat' (first
       | refine X1 ?_|refine X2 ?_|refine X7 ?_|refine AG ?_;go_step|fail)
      go_roundg (gk2-1)
      case measure=>omega
      case rel=>
       refine ⟨i+1,o,by omega,by go_num,fun p hp=>?_,hS.sub AV⟩
       rw [HO.out p hp];unfold Vn cX
       by_cases h1:p%8<r∨p%8=r∧p/8<i
       ·rw [if_pos h1,if_pos (by omega)]
       rw [if_neg h1]
       by_cases h2:p%8=r∧p/8=i
       ·rw [if_pos h2,if_pos (by omega)]
       rw [if_neg h2,if_neg (by omega)];split<;>rfl
    obtain rfl:i=8:=by omega
    repeat' (first
     | refine X1 ?_|refine X2 ?_|refine X7 ?_|refine AG ?_;go_step|fail)
    go_roundg (gk1-1)
    case measure=>omega
    case rel=>
     refine ⟨r+1,o,by omega,by go_num,fun p hp=>?_,hS.sub AV⟩
     rw [HO.out p hp];unfold Vn
     by_cases h1:p%8<r∨p%8=r∧p/8<8
     ·rw [if_pos h1,if_pos (by omega)]
     rw [if_neg h1,if_neg (by omega),if_neg (by omega)];split<;>rfl
  obtain rfl:r=8:=by omega
  have hol:=(hS.arr (g:=g4) (n:=64) AJ).2
  have lo:Ap o 64:=hol
  repeat' (first
   | refine X2 ?_|refine IK ?_|refine Ew ?_;clear hS;intro w hS|refine AG ?_;go_step|fail)
  refine BW rfl (AC.arr hS rfl (AP (n:=64) rfl) AJ) rfl ?_
  refine ⟨?_,hS.1⟩
  rw [PH,←Gp hol fun p hp=>by rw [HO.out p hp];unfold Vn;rw [if_pos (by omega)]]
def TB(b:List Int):Bool:=Bx b (-40000) 40000
def cP(cf:Int→Int→Int)(b:List Int)(p:Nat):Int:=Id (AK (PH (PH b cf) cf) p) 67108864
def Vt(cf:Int→Int→Int)(b:List Int):List Int:=if TB b then Do 64 (cP cf b) else List.replicate 64 0
def cO(b:List Int):Int:=if TB b then 0 else 1
theorem FG(cf:Int→Int→Int)(b:List Int):Ap (Vt cf b) 64:=by
 show (Vt cf b).length=64
 unfold Vt;split
 ·exact Bt _ _
 simp
theorem TY(b:List Int)(cf:Int→Int→Int)(hc:∀i k:Int,-4096≤cf i k∧cf i k≤4096)(B:Int)(hB:∀i,-B≤AK b i∧AK b i≤B)(i:Nat): -(8*(B*4096))≤AK (PH b cf) i∧AK (PH b cf) i≤8*(B*4096):=by
 have h0:=hB 0
 by_cases hi:i<64
 ·rw [PH,JU _ _ _ hi,cX]
  have:=YY (Wa b cf i) (B*4096) 8 fun j hj=>UT _ _ _ _ (hB _) (hc _ _)
  simpa using this
 rw [Mb _ _ (by rw [PH,Bt];omega)];omega
theorem cI{b:List Int}(h:TB b=true)(i:Nat): -40000≤AK b i∧AK b i≤40000:=by
 by_cases hi:i<b.length
 ·exact (BL _ _ _).1 h i hi
 rw [Mb _ _ (by omega)];omega
theorem Ki(n:Int)(w:World):Calls Tryz.prog 115 #[.int .i64 n] w fun e w'=>e= .returned (.bool (decide (n< -40000)||decide (40000<n)))∧w=w':=by
 go_enter Tryz.func115,Tryz.ntmps115
 repeat' (first
  | go_skip|((first|(with_reducible refine JG ?_)|(with_reducible refine QW ?_));(first|go_big_want|go_step);go_step)|((with_reducible refine An _ (.pick _ _ _) ?_);first|(refine BJ rfl AA ?_;go_step)|(refine BC rfl AA ?_;go_step))|((refine AS 4 ?_);(refine Cg _ (V.lss rfl rfl) AA (fun hB=>?_) (fun hB=>?_)<;>(try exact AW)<;>go_step))|((with_reducible refine An _ (.binOp .gtr _ _ _ _) ?_);(refine As AA (V.gtr rfl rfl) ?_;go_step))|(refine AG ?_;go_step)|fail)
 all_goals (go_ret;exact ⟨DD (by simp;omega),rfl⟩)
theorem NY(l:List Int):(l.any fun n=>decide (n< -40000)||decide (40000<n))= !TB l:=by unfold TB Bx;simp
theorem L3(w0:World)(b:List Int)(K:FuncId)(cf:Int→Int→Int)(hK:Vu K cf)(hb:Ap b 64):
 Calls Tryz.prog 79 #[.agg (iv b), .func (.func K) #[] #[]] w0 fun e w=>e= .returned (.tuple #[.agg (iv (Vt cf b)), .int .i64 (cO b)])∧Al w0 w:=by
 have hS:=St.start w0
 have HK:=AD hK
 clear hK
 cases hok:TB b
 ·have HO:=AD hok
  clear hok
  go_enter Tryz.func79,Tryz.ntmps79
  repeat' (first
   | (refine A3 76 ?_);refine A4 AA Tryz.call76 (BG _ _ b (hS.isl AJ (by omega)) 115 #[] (fun n=>decide (n< -40000)||decide (40000<n)) Tryz.call115 (fun n=>Ki n _)) ?_;rintro e w' ⟨rfl,rfl⟩;rw [NY,HO.out];refine Ae ?_;go_step|refine X8 ?_|refine Zf ?_|(refine AS 10 ?_);(refine As AA (V.build (vs:=[]) rfl (YO)) ?_;go_step)|refine MD 2 ?_;clear hS;intro g2 w hS|refine JL 4 ?_;clear hS;intro g4 w hS|refine Ew ?_;clear hS;intro w hS|refine AG ?_;go_step|fail)
  refine AM (xs:=[_,_]) rfl (.cons (AC.arr hS rfl (AP (n:=64) rfl) AJ) (.cons (AC.tmp rfl) (.nil))) (by simp) rfl ?_
  exact ⟨by unfold Vt cO;rw [HO.out];rfl,hS.1⟩
 have HO:=AD hok
 have HB1:=AD (cI hok)
 have HB2:=AD (TY b cf HK.out.bd 40000 HB1.out)
 have HB3:=AD (TY (PH b cf) cf HK.out.bd (8*(40000*4096)) HB2.out)
 have hl1:Ap (PH b cf) 64:=Bt _ _
 have hl2:Ap (PH (PH b cf) cf) 64:=Bt _ _
 clear hok
 go_enter Tryz.func79,Tryz.ntmps79
 repeat' (first
  | (refine A3 76 ?_);refine A4 AA Tryz.call76 (BG _ _ b (hS.isl AJ (by omega)) 115 #[] (fun n=>decide (n< -40000)||decide (40000<n)) Tryz.call115 (fun n=>Ki n _)) ?_;rintro e w' ⟨rfl,rfl⟩;rw [NY,HO.out];refine Ae ?_;go_step|(refine AS 13 ?_);refine AN (f:=116) Tryz.call116 AA ?_;refine ⟨_,LV _ b K cf HK.out (by assumption) (fun i=>by have:=HB1.out i;omega),?_⟩;rintro e w ⟨rfl,hE⟩;replace hS:=hS.ext hE;clear hE;refine Ae ?_;go_step|(refine AS 15 ?_);refine AN (f:=116) Tryz.call116 AA ?_;refine ⟨_,LV _ (PH b cf) K cf HK.out (by assumption) (fun i=>by have:=HB2.out i;omega),?_⟩;rintro e w ⟨rfl,hE⟩;replace hS:=hS.ext hE;clear hE;refine Ae ?_;go_step|refine X0 ?_|refine Zf ?_|refine MD 2 ?_;clear hS;intro g2 w hS|refine JL 4 ?_;clear hS;intro g4 w hS|refine Ew ?_;clear hS;intro w hS|refine IK ?_|refine AG ?_;go_step|fail)
 obtain ⟨al,hal⟩:∃al,PH (PH b cf) cf=al:=⟨_,rfl⟩
 rw [hal] at hS hl2⊢
 have HAL:=AD hal
 have HB4:Hid (∀i,-2305843009213693951≤AK al i∧AK al i≤2305843009213693951):=fun i=>by have:=HB3.out i;rw [HAL.out] at this;omega
 clear hal HB3 HB2 HB1 hl1
 go_loopg [17] 64 (fun gk kv w=>∃(i:Nat) (o:List Int),gk+i=64∧kv= .int .i64 i∧(∀p,p<i→AK o p=cP cf b p)∧St w0 w [arr g2 64 o,arr g4 64 (List.replicate 64 0)])
 case atStart=>exact ⟨0,_,rfl,rfl,fun p hp=>by omega,hS.sub AV⟩
 case round=>
  clear hS
  obtain ⟨i,o,hi,rfl,ho,hS⟩:=hrel
  have HO2:=AD ho
  clear ho
  have hol:=(hS.arr (g:=g2) (n:=64) AJ).2
  by_cases hlt:i<64
  ·have hbb:=HB4.out i
   have HV:Hid (Id (AK al i) 67108864=cP cf b i):=by unfold Hid cP;rw [HAL.out]
   repeat' (first
    | (refine A3 64 ?_);refine A4 AA Tryz.call64 (Ie (AK al i) 67108864 _ (by omega) (by omega) (by omega) (by omega)) ?_;rintro e w' ⟨rfl,rfl⟩;rw [HV.out];refine Ae ?_;go_step|refine X0 ?_|refine X2 ?_|refine WR 20 ?_|refine WT 24 ?_|refine X7 ?_|refine V9 ?_;clear hS;intro w hS|refine AG ?_;go_step|fail)
   go_roundg (gk-1)
   case measure=>omega
   case rel=>
    refine ⟨i+1,_,by omega,by go_num,fun p hp=>?_,hS.sub AV⟩
    rw [CL o i p _ (by omega)]
    split
    ·rename_i e;rw [e]
    exact HO2.out p (by have h9:p<i+1:=hp;omega)
  obtain rfl:i=64:=by omega
  have lo:Ap o 64:=hol
  have hw:o=Do 64 (cP cf b):=Gp hol fun p hp=>HO2.out p hp
  have HW:=AD hw
  clear hw
  repeat' (first
   | refine X8 ?_|refine X2 ?_|refine IK ?_|refine Ew ?_;clear hS;intro w hS|refine AG ?_;go_step|fail)
  refine AM (xs:=[_,_]) rfl (.cons (AC.arr hS rfl (AP (n:=64) rfl) AJ) (.cons (AC.tmp rfl) (.nil))) (by simp) rfl ?_
  exact ⟨by unfold Vt cO;rw [HO.out,HW.out];rfl,hS.1⟩
theorem PM:Vu 80 K6:=⟨Tryz.call80,fun i k w h1 h2=>LW w i k (by omega) (by omega),QZ⟩
def bw(i k:Int):Int:=K6 k i
def ce(b:List Int):List Int:=Vt K6 b
def VP(b:List Int):List Int:=Vt bw b
theorem Xu(w0:World)(b:List Int)(hb:Ap b 64):Calls Tryz.prog 47 #[.agg (iv b)] w0 fun e w=>e= .returned (.tuple #[.agg (iv (ce b)), .int .i64 (cO b)])∧Al w0 w:=by
 have hS:=St.start w0
 have hl:Ap (Vt K6 b) 64:=FG _ _
 go_enter Tryz.func47,Tryz.ntmps47
 repeat' (first
  | (refine A3 79 ?_);refine A4 AA Tryz.call79 (L3 _ b 80 K6 PM (by assumption)) (Gb hS ?_);clear hS;intro w hS;go_step|refine X8 ?_|refine X6 ?_|refine MD 1 ?_;clear hS;intro g1 w hS|refine JL 2 ?_;clear hS;intro g2 w hS|refine IK ?_|refine Ew ?_;clear hS;intro w hS|refine AG ?_;go_step|fail)
 refine AM (xs:=[_,_]) rfl (.cons (AC.arr hS rfl (AP (n:=64) rfl) AJ) (.cons (AC.tmp rfl) (.nil))) (by simp) rfl ?_
 exact ⟨rfl,hS.1⟩
theorem SG(w0:World)(i k:Int)(hu:0≤i∧i≤7)(hx:0≤k∧k≤7):Calls Tryz.prog 127 #[.int .i64 i, .int .i64 k] w0 fun e w=>e= .returned (.int .i64 (bw i k))∧Al w0 w:=by
 have hS:=St.start w0
 go_enter Tryz.func127,Tryz.ntmps127
 repeat' (first
  | (refine A3 80 ?_);refine A4 AA Tryz.call80 (LW _ k i (by omega) (by omega)) (Gb hS ?_);clear hS;intro w hS;go_step|refine X0 ?_|refine AG ?_;go_step|fail)
 go_ret
 exact ⟨rfl,hS.1⟩
theorem Ry:Vu 127 bw:=⟨Tryz.call127,fun i k w h1 h2=>SG w i k (by omega) (by omega),fun i k=>QZ k i⟩
theorem Sx(w0:World)(b:List Int)(hb:Ap b 64):Calls Tryz.prog 94 #[.agg (iv b)] w0 fun e w=>e= .returned (.tuple #[.agg (iv (VP b)), .int .i64 (cO b)])∧Al w0 w:=by
 have hS:=St.start w0
 have hl:Ap (Vt bw b) 64:=FG _ _
 go_enter Tryz.func94,Tryz.ntmps94
 repeat' (first
  | (refine A3 79 ?_);refine A4 AA Tryz.call79 (L3 _ b 127 bw Ry (by assumption)) (Gb hS ?_);clear hS;intro w hS;go_step|refine X8 ?_|refine X6 ?_|refine MD 1 ?_;clear hS;intro g1 w hS|refine JL 2 ?_;clear hS;intro g2 w hS|refine IK ?_|refine Ew ?_;clear hS;intro w hS|refine AG ?_;go_step|fail)
 refine AM (xs:=[_,_]) rfl (.cons (AC.arr hS rfl (AP (n:=64) rfl) AJ) (.cons (AC.tmp rfl) (.nil))) (by simp) rfl ?_
 exact ⟨rfl,hS.1⟩
theorem Rm(m0:Int)(m1:Int)(w:World):(Instr.build 107 #[(0, .int .i64 m0),(1, .int .i64 m1)]).run Tryz.prog w= .ok (.agg #[.int .i64 m0, .int .i64 m1]) w:=by kernel_rfl
theorem Cx(w0:World)(m n:Int):Calls Tryz.prog 58 #[.agg #[.int .i64 m, .int .i64 n]] w0 fun e w'=>e= .returned (.int .i64 (if 1≤m∧m≤64∧1≤n∧n≤64 then 0 else 1))∧Al w0 w':=by
 have hS:=St.start w0
 go_enter Tryz.func58,Tryz.ntmps58
 repeat' (first
  | go_skip|((first|(with_reducible refine JG ?_)|(with_reducible refine QW ?_));(first|go_big_want|go_step);go_step)|((with_reducible refine An _ (.pick _ _ _) ?_);first|(refine BJ rfl AA ?_;go_step)|(refine BC rfl AA ?_;go_step))|((refine AS 5 ?_);(refine Cg _ (V.lss rfl rfl) AA (fun hB=>?_) (fun hB=>?_)<;>(try exact AW)<;>go_step))|((refine AS 9 ?_);(refine Cg _ (V.gtr rfl rfl) AA (fun hB=>?_) (fun hB=>?_)<;>(try exact AW)<;>go_step))|((refine AS 14 ?_);(refine Cg _ (V.lss rfl rfl) AA (fun hB=>?_) (fun hB=>?_)<;>(try exact AW)<;>go_step))|((with_reducible refine An _ (.fieldAddr 107 _ 0) ?_);(refine As AA (V.fieldAddr Qq rfl BO) ?_;go_step))|((with_reducible refine An _ (.fieldAddr 107 _ 1) ?_);(refine As AA (V.fieldAddr Qr rfl BO) ?_;go_step))|((with_reducible refine An _ (.binOp .gtr _ _ _ _) ?_);(refine As AA (V.gtr rfl rfl) ?_;go_step))|((refine AS 1 ?_);(refine Ag ?_;apply CP (o:=⟨some 1,_,_,_,_,_⟩) hS 107 _ rfl _ rfl;clear hS;intro g1 w hS;refine AB ?_;go_step))|((with_reducible refine An _ (.load 3 _) ?_);(refine Ag ?_;apply AY hS 3 _ rfl _ _ rfl (AH rfl) _;(case hp=>exact AJ);(case hc=>rfl);refine AB ?_;go_step))|(refine AG ?_;go_step)|fail)
 all_goals (go_ret;exact ⟨Hq (by omega),hS.1⟩)
theorem Jl(w0:World)(m n:Int)(h:1≤m∧m≤64):Calls Tryz.prog 97 #[.agg #[.int .i64 m, .int .i64 n]] w0 fun e w'=>e= .returned (.int .i64 ((m+7)/8))∧Al w0 w':=by
 have hS:=St.start w0
 go_enter Tryz.func97,Tryz.ntmps97
 repeat' (first
  | (refine AS 6 ?_);(refine Ak (.int _ (m+7)) (V.as (V.subI rfl rfl (by omega)) (by omega)) (by kernel_rfl) ?_;go_step)|refine X8 ?_|(with_reducible refine An _ (.fieldAddr 107 _ 0) ?_);(refine As AA (V.fieldAddr Qq rfl BO) ?_;go_step)|refine X7 ?_|(with_reducible refine An _ (.binOp .quo _ _ _ _) ?_);(refine As AA (V.quo rfl rfl (by omega) (by omega)) ?_;go_step)|(refine AS 1 ?_);(refine Ag ?_;apply CP (o:=⟨some 1,_,_,_,_,_⟩) hS 107 _ rfl _ rfl;clear hS;intro g1 w hS;refine AB ?_;go_step)|refine X9 ?_|refine AG ?_;go_step|fail)
 go_ret
 exact ⟨rfl,hS.1⟩
theorem Hg(w0:World)(m n:Int)(h:1≤m∧m≤64)(h2:1≤n∧n≤64):Calls Tryz.prog 59 #[.agg #[.int .i64 m, .int .i64 n]] w0 fun e w'=>e= .returned (.int .i64 ((m+7)/8*((n+7)/8)))∧Al w0 w':=by
 have hS:=St.start w0
 obtain ⟨k0,k1⟩:=Ds ((m+7)/8) ((n+7)/8) 8 8 (by omega) (by omega)
 go_enter Tryz.func59,Tryz.ntmps59
 repeat' (first
  | refine X8 ?_|(refine AS 1 ?_);(refine Ag ?_;apply CP (o:=⟨some 1,_,_,_,_,_⟩) hS 107 _ rfl _ rfl;clear hS;intro g1 w hS;refine AB ?_;go_step)|refine AG ?_;go_step|fail)
 refine AQ [] (fun w=>St w0 w [blk g1 [.int .i64 m, .int .i64 n]]) AA ?_
 replace hS:=hS.drew
 focus
  refine ct 0 [1,7,8] ?_
  refine Bf 2 BU (V.fieldAddr Qr rfl BO) ?_;go_step
  refine Y7 3 [4,5,6,7,8] ?_
  refine Vm 4 ?_
  (refine Bo 5 (.int _ (n+7)) Am AA AA AA Ch (V.as (V.subI rfl rfl (by omega)) (by omega)) AA ?_)
  go_step
  refine Bf 6 BU (V.quo rfl rfl (by omega) (by omega)) ?_;go_step
  refine Aa 1 ?_
  refine Af (f:=97) rfl Tryz.call97 (Jl _ m n h) ?_;rintro e w ⟨rfl,hE⟩;replace hS:=hS.ext hE;clear hE;refine ⟨_,rfl,?_⟩
  refine ⟨fun _ _=>hS.sub AV,?_⟩
  refine AF ?_
  go_step
  refine YM 7 ?_
  refine Ab 8 ?_
  refine AE AA ?_ _
 all_goals
  repeat' (first
   | refine AG ?_;go_step|fail)
 all_goals (go_ret;exact ⟨rfl,hS.1⟩)
theorem Gx(w0:World)(m n:Int):Calls Tryz.prog 32 #[.int .i64 m, .int .i64 n] w0 fun e w'=>e= .returned (.tuple #[.int .i64 (if 1≤m∧m≤64∧1≤n∧n≤64 then (m+7)/8*((n+7)/8) else 0), .int .i64 (if 1≤m∧m≤64∧1≤n∧n≤64 then 0 else 1)])∧Al w0 w':=by
 have hS:=St.start w0
 by_cases hok:1≤m∧m≤64∧1≤n∧n≤64
 all_goals
  (first|simp only [if_pos hok]|simp only [if_neg hok])
  go_enter Tryz.func32,Tryz.ntmps32
  repeat' (first
   | (refine A3 58 ?_);refine A4 AA Tryz.call58 (Cx _ m n) ?_;rintro e w ⟨rfl,hE⟩;replace hS:=hS.ext hE;clear hE;(first|rw [if_pos hok]|rw [if_neg hok]);refine Ae ?_;go_step|(refine A3 59 ?_);refine A4 AA Tryz.call59 (Hg _ m n (by omega) (by omega)) (Gb hS ?_);clear hS;intro w hS;go_step|refine X0 ?_|refine Zh 10 ?_|refine X3 ?_|refine ZV 6 ?_;clear hS;intro g6 w hS|refine ZY ?_;clear hS;intro w hS|refine Vh ?_|refine AG ?_;go_step|fail)
  go_ret2
  exact ⟨rfl,hS.1⟩
def Ho(ac k i:Int):Int:=k/ac*8+i/8
def Ff(ac k i:Int):Int:=k%ac*8+i%8
theorem IZ(w0:World)(m n k i:Int)(h:1≤m∧m≤64)(hk:0≤k∧k≤100000)(hi:0≤i∧i<64):
 Calls Tryz.prog 78 #[.agg #[.int .i64 m, .int .i64 n], .int .i64 k, .int .i64 i] w0 fun e w'=>e= .returned (.tuple #[.int .i64 (Ho ((m+7)/8) k i), .int .i64 (Ff ((m+7)/8) k i)])∧Al w0 w':=by
 have hS:=St.start w0
 have ha:1≤(m+7)/8:=by omega
 have ha8:(m+7)/8≤8:=by omega
 have HA:=AD (fun (w:World)=>Jl w m n h)
 generalize hac:(m+7)/8=ac at*
 clear hac
 have q1:0≤k/ac:=Int.ediv_nonneg hk.1 (by omega)
 have q2:k/ac≤k:=Int.ediv_le_self ac hk.1
 have q3:=Int.emod_nonneg k (b:=ac) (by omega)
 have q4:=Int.emod_lt_of_pos k (b:=ac) (by omega)
 go_enter Tryz.func78,Tryz.ntmps78
 repeat' (first
  | refine X8 ?_|(refine AS 3 ?_);(refine Ag ?_;apply CP (o:=⟨some 3,_,_,_,_,_⟩) hS 107 _ rfl _ rfl;clear hS;intro g3 w hS;refine AB ?_;go_step)|refine AG ?_;go_step|fail)
 refine AQ [10] (fun w=>St w0 w [blk g3 [.int .i64 m, .int .i64 n]]) AA ?_
 replace hS:=hS.drew
 focus
  refine Ab 0 ?_
  refine ct 1 [2,3,4,7,10,11,12,15,16,17] ?_
  refine Ab 5 ?_
  refine Bf 6 BU (V.quo rfl rfl (by omega) (by omega)) ?_;go_step
  refine Ab 8 ?_
  refine ct 9 [10,11,12,15,16,17] ?_
  refine Ab 13 ?_
  refine Bf 14 BU (V.rem rfl rfl (by omega) (by omega)) ?_;go_step
  refine Aa 2 ?_
  refine Af (f:=97) rfl Tryz.call97 (HA.out _) ?_;rintro e w ⟨rfl,hE⟩;replace hS:=hS.ext hE;clear hE;refine ⟨_,rfl,?_⟩
  refine ⟨fun _ _=>hS.sub AV,?_⟩
  refine AF ?_
  go_step
  refine Bf 3 BU (V.quo rfl rfl (by omega) (by omega)) ?_;go_step
  refine YM 4 ?_
  refine Vm 7 ?_
  refine Aa 10 ?_
  refine Af (f:=97) rfl Tryz.call97 (HA.out _) ?_;rintro e w ⟨rfl,hE⟩;replace hS:=hS.ext hE;clear hE;refine ⟨_,rfl,?_⟩
  refine ⟨fun h=>absurd (by decide) h,?_⟩
  refine AF ?_
  go_step
  refine Bf 11 BU (V.rem rfl rfl (by omega) (by omega)) ?_;go_step
  refine YM 12 ?_
  refine Vm 15 ?_
  refine Ab 16 ?_
  refine Ab 17 ?_
  refine AE AA ?_ _
 all_goals
  repeat' (first
   | refine AG ?_;go_step|fail)
 all_goals (go_ret2;exact ⟨rfl,hS.1⟩)
def Aq(m n:Int):Nat:=(((m+7)/8)*((n+7)/8)).toNat
def Vr(l:List Int):Bool:=Bx l 0 255
def Cf(l:List Int)(n:Nat)(m h:Int):Int:=if 1≤m∧m≤64∧1≤h∧h≤64 then if (n:Int)=m*h then if Vr l then 0 else 1 else 4 else 1
def Nn(l:List Int)(m h:Int)(x:Nat):Int:=AK l ((min (Ho ((m+7)/8) (x/64:Nat) (x%64:Nat)) (h-1))*m+min (Ff ((m+7)/8) (x/64:Nat) (x%64:Nat)) (m-1)).toNat-128
def MI(l:List Int)(m h:Int):List Int:=Do (Aq m h*64) (Nn l m h)
theorem Tl(n:Int)(w:World):Calls Tryz.prog 77 #[.int .i64 n] w fun e w'=>e= .returned (.bool (decide (n<0)||decide (255<n)))∧w=w':=by
 go_enter Tryz.func77,Tryz.ntmps77
 repeat' (first
  | go_skip|((first|(with_reducible refine JG ?_)|(with_reducible refine QW ?_));(first|go_big_want|go_step);go_step)|((with_reducible refine An _ (.pick _ _ _) ?_);first|(refine BJ rfl AA ?_;go_step)|(refine BC rfl AA ?_;go_step))|((refine AS 4 ?_);(refine Cg _ (V.lss rfl rfl) AA (fun hB=>?_) (fun hB=>?_)<;>(try exact AW)<;>go_step))|((with_reducible refine An _ (.binOp .gtr _ _ _ _) ?_);(refine As AA (V.gtr rfl rfl) ?_;go_step))|(refine AG ?_;go_step)|fail)
 all_goals (go_ret;exact ⟨DD (by simp;omega),rfl⟩)
def NR(w0:World)(l:List Int)(n:Nat)(m h:Int)(e:Ending)(w:World):Prop:=
 ∃ad c,e= .returned (.tuple #[.slice ad (if Cf l n m h=0 then Aq m h else 0) c, .int .i64 (Cf l n m h)])∧St w0 w [own 26 64 ad (if Cf l n m h=0 then Aq m h else 0) c ((if Cf l n m h=0 then MI l m h else []).map (Value.int .i64))]
theorem PQ{w0 w:World}{l:List Int}{n:Nat}{m h:Int}(E:Int)(h1:Cf l n m h=E)(h2:E≠0)(hE:Al w0 w):NR w0 l n m h (.returned (.tuple #[.slice none 0 0, .int .i64 E])) w:=by
 refine ⟨none,0,?_,?_⟩
 ·rw [h1,if_neg h2]
 rw [if_neg (by rw [h1];exact h2),if_neg (by rw [h1];exact h2)];exact (St.of_ext hE).nil _ _
theorem QV(l:List Int):(l.any fun n=>decide (n<0)||decide (255<n))= !Vr l:=by unfold Vr Bx;simp
theorem KM(m h:Int)(hm:1≤m∧m≤64)(hh:1≤h∧h≤64)(k i:Int)(hk:0≤k)(hi:0≤i∧i<64):
 0≤Ho ((m+7)/8) k i∧0≤Ff ((m+7)/8) k i∧Ff ((m+7)/8) k i<64∧0≤(min (Ho ((m+7)/8) k i) (h-1))*m∧(min (Ho ((m+7)/8) k i) (h-1))*m+min (Ff ((m+7)/8) k i) (m-1)<m*h:=by
 have q1:0≤k/((m+7)/8):=Int.ediv_nonneg hk (by omega)
 have q3:=Int.emod_nonneg k (b:=(m+7)/8) (by omega)
 have q4:=Int.emod_lt_of_pos k (b:=(m+7)/8) (by omega)
 unfold Ho Ff
 generalize k/((m+7)/8)=a at*
 generalize k%((m+7)/8)=b at*
 have r0:0≤min (a*8+i/8) (h-1):=by omega
 have r1:min (a*8+i/8) (h-1)≤h-1:=by omega
 generalize min (a*8+i/8) (h-1)=r at*
 have t1:0≤r*m:=Int.mul_nonneg r0 (by omega)
 have t2:r*m≤(h-1)*m:=Int.mul_le_mul_of_nonneg_right r1 (by omega)
 have t3:(h-1)*m=m*h-m:=by rw [Int.sub_mul,Int.one_mul,Int.mul_comm h m]
 refine ⟨by omega,by omega,by omega,by omega,by omega⟩
theorem MJ(w0:World)(ad:Option Addr)(n c:Nat)(l:List Int)(m h:Int)(hm64: -9223372036854775808≤m∧m≤9223372036854775807)(hn:n≤9223372036854775807)(hv:Sl w0 1 (.slice ad n c) n (l.map (Value.int .i64)))(hcl:(callFunc 77:Array Value→Sem Next)=callFunc 77):
 Calls Tryz.prog 46 #[.slice ad n c, .int .i64 m, .int .i64 h] w0 (NR w0 l n m h):=by
 have hl:l.length=n:=by have:=hv.1;simpa using this
 have hS:=St.start w0
 have HC:=AD (fun (w:World)(hE:Al w0 w)=>BG w (.slice ad n c) l (by unfold NU;rw [hl];exact hv.ext hE) 77 #[] (fun n=>decide (n<0)||decide (255<n)) Tryz.call77 (fun n=>Tl n w))
 have HL:=AD hl
 clear hl hcl
 by_cases hok:1≤m∧m≤64∧1≤h∧h≤64
 case neg=>
  have HE:=AD (show Cf l n m h=1 by rw [Cf,if_neg hok])
  go_enter Tryz.func46,Tryz.ntmps46
  repeat' (first
   | (refine A3 58 ?_);refine A4 AA Tryz.call58 (Cx _ m h) ?_;rintro e w ⟨rfl,hE⟩;replace hS:=hS.ext hE;clear hE;rw [if_neg hok];refine Ae ?_;go_step|refine X0 ?_|refine Zh 17 ?_|refine X3 ?_|refine ZV 8 ?_;clear hS;intro g8 w hS|refine ZY ?_;clear hS;intro w hS|refine Vh ?_|refine AG ?_;go_step|fail)
  go_ret2
  exact PQ 1 HE.out (by decide) hS.1
 obtain ⟨k0,k1⟩:=Ds m h 64 64 (by omega) (by omega)
 by_cases hnm:(n:Int)=m*h
 case neg=>
  have HE:=AD (show Cf l n m h=4 by rw [Cf,if_pos hok,if_neg hnm])
  go_enter Tryz.func46,Tryz.ntmps46
  repeat' (first
   | (refine A3 58 ?_);refine A4 AA Tryz.call58 (Cx _ m h) ?_;rintro e w ⟨rfl,hE⟩;replace hS:=hS.ext hE;clear hE;rw [if_pos hok];refine Ae ?_;go_step|refine X0 ?_|refine Zh 17 ?_|refine X3 ?_|refine TV ?_|refine bh ?_|refine IJ ?_|refine ZV 8 ?_;clear hS;intro g8 w hS|refine ZY ?_;clear hS;intro w hS|refine Vh ?_|refine AG ?_;go_step|fail)
  go_ret2
  exact PQ 4 HE.out (by decide) hS.1
 replace hn:n≤100000:=by omega
 by_cases hs:Vr l=true
 case neg=>
  have hs':(!Vr l)=true:=by simpa using hs
  have HE:=AD (show Cf l n m h=1 by rw [Cf,if_pos hok,if_pos hnm,if_neg hs])
  go_enter Tryz.func46,Tryz.ntmps46
  repeat' (first
   | (refine A3 58 ?_);refine A4 AA Tryz.call58 (Cx _ m h) ?_;rintro e w ⟨rfl,hE⟩;replace hS:=hS.ext hE;clear hE;rw [if_pos hok];refine Ae ?_;go_step|(refine A3 76 ?_);refine A4 AA Tryz.call76 (HC.out _ hS.1) ?_;rintro e w' ⟨rfl,rfl⟩;rw [QV,hs'];refine Ae ?_;go_step|refine X0 ?_|refine Zh 17 ?_|refine X3 ?_|refine TV ?_|refine bh ?_|refine IJ ?_|refine ZV 8 ?_;clear hS;intro g8 w hS|refine ZY ?_;clear hS;intro w hS|refine Vh ?_|refine AG ?_;go_step|fail)
  go_ret2
  exact PQ 1 HE.out (by decide) hS.1
 have hs':(!Vr l)=false:=by simpa using hs
 have HE:=AD (show Cf l n m h=0 by rw [Cf,if_pos hok,if_pos hnm,if_pos hs])
 have HS:=AD hs
 obtain ⟨kk0,kk1⟩:=Ds ((m+7)/8) ((h+7)/8) 8 8 (by omega) (by omega)
 have kk2:0≤((m+7)/8)*((h+7)/8):=Int.mul_nonneg (by omega) (by omega)
 obtain ⟨K,hK⟩:∃K,Aq m h=K:=⟨_,rfl⟩
 have hK2:(m+7)/8*((h+7)/8)=(K:Int):=by rw [←hK,Aq];omega
 have hK3:K≤64:=by omega
 have HB:Hid (∀x:Nat,x<K*64→ -9223372036854775000≤Nn l m h x∧Nn l m h x≤9223372036854775000):=fun x hx=>by
  unfold Nn
  have p0:=KM m h ⟨hok.1,hok.2.1⟩ hok.2.2 (x/64:Nat) (x%64:Nat) (by omega) (by omega)
  have:=(BL l 0 255).1 hs ((min (Ho ((m+7)/8) (x/64:Nat) (x%64:Nat)) (h-1))*m+min (Ff ((m+7)/8) (x/64:Nat) (x%64:Nat)) (m-1)).toNat (by rw [HL.out];omega)
  omega
 have HK:=AD hK
 clear hs hs' hK kk0 kk1 kk2
 obtain ⟨b0,off,rfl,hcell⟩:∃b off,ad=some ⟨b,off,none⟩∧∀k,k<n→w0.cell? ⟨b,off+k,none⟩=some (.int .i64 (AK l k)):=by
  have h1:0<m*h:=Int.mul_pos (by omega) (by omega)
  have hvI:NU w0 (.slice ad n c) l:=by unfold NU;rw [HL.out];exact hv
  obtain ⟨a',c',e1,_,_,hI⟩:=hvI.open
  cases e1
  obtain ⟨b,off,e2,h3⟩:=hI 0 (by rw [HL.out];omega)
  exact ⟨b,off,e2,fun k hk=>h3 k (by rw [HL.out];exact hk)⟩
 have HCell:=AD hcell
 clear hcell
 go_enter Tryz.func46,Tryz.ntmps46
 repeat' (first
  | (refine A3 58 ?_);refine A4 AA Tryz.call58 (Cx _ m h) ?_;rintro e w ⟨rfl,hE⟩;replace hS:=hS.ext hE;clear hE;rw [if_pos hok];refine Ae ?_;go_step|(refine A3 76 ?_);refine A4 AA Tryz.call76 (HC.out _ hS.1) ?_;rintro e w' ⟨rfl,rfl⟩;rw [QV,HS.out];refine Ae ?_;go_step|(refine A3 59 ?_);refine A4 AA Tryz.call59 (Hg _ m h (by omega) (by omega)) ?_;rintro e w ⟨rfl,hE⟩;replace hS:=hS.ext hE;clear hE;rw [hK2];refine Ae ?_;go_step|refine X0 ?_|refine Zh 17 ?_|refine X3 ?_|refine TV ?_|refine bh ?_|refine IJ ?_|refine TF ?_|refine ZV 8 ?_;clear hS;intro g8 w hS|refine ZY ?_;clear hS;intro w hS|refine Vh ?_|refine bI 36 ?_;clear hS;intro g36 w hS|refine AG ?_;go_step|fail)
 go_loopg [39] K (fun gk kv w=>∃(k:Nat) (o:List Int),gk+k=K∧kv= .int .i64 k∧(∀x,x<k*64→AK o x=Nn l m h x)∧St w0 w [own 26 64 (some ⟨g36,0,none⟩) K K (o.map (Value.int .i64)),blk g8 [.int .i64 m, .int .i64 h]])
 case atStart=>exact ⟨0,_,rfl,rfl,fun x hx=>by omega,hS.sub AV⟩
 case round=>
  clear hS
  obtain ⟨k,o,hk,rfl,ho,hS⟩:=hrel
  have HO:=AD ho
  clear ho
  by_cases hlt:k<K
  ·obtain ⟨gk1,hgk1⟩:∃x,x=gk:=⟨_,rfl⟩
   subst hgk1
   repeat' (first
    | refine X0 ?_|refine X2 ?_|refine AG ?_;go_step|fail)
   go_loopg [42] 64 (fun gk kv w=>∃(i:Nat) (o:List Int),gk+i=64∧kv= .int .i64 i∧(∀x,x<k*64+i→AK o x=Nn l m h x)∧St w0 w [own 26 64 (some ⟨g36,0,none⟩) K K (o.map (Value.int .i64)),blk g8 [.int .i64 m, .int .i64 h]])
   case atStart=>exact ⟨0,o,rfl,rfl,HO.out,hS.sub AV⟩
   case round=>
    clear hS HO
    obtain ⟨i,o,hi,rfl,ho,hS⟩:=hrel
    have HO:=AD ho
    clear ho
    by_cases hlt2:i<64
    ·obtain ⟨R,hR⟩:∃R,Ho ((m+7)/8) (k:Int) (i:Int)=R:=⟨_,rfl⟩
     obtain ⟨C,hC⟩:∃C,Ff ((m+7)/8) (k:Int) (i:Int)=C:=⟨_,rfl⟩
     obtain ⟨p0,p1,p2,p3,p4⟩:=KM m h ⟨hok.1,hok.2.1⟩ hok.2.2 (k:Int) (i:Int) (by omega) (by omega)
     have hV:Nn l m h (k*64+i)=AK l ((min R (h-1))*m+min C (m-1)).toNat-128:=by
      unfold Nn
      rw [show (k*64+i)/64=k by omega,show (k*64+i)%64=i by omega,hR,hC]
     rw [hR] at p0 p3 p4
     rw [hC] at p1 p2 p4
     have HR:=AD hR
     have HCc:=AD hC
     obtain ⟨q,hq⟩:∃q:Nat,(min R (h-1))*m+min C (m-1)=(q:Int):=⟨((min R (h-1))*m+min C (m-1)).toNat,by omega⟩
     rw [hq,Int.toNat_natCast] at hV
     have hc:=HCell.out q (by omega)
     have hx: -9223372036854775000≤AK l q∧AK l q≤9223372036854775000:=by
      have:=(BL l 0 255).1 (by have:=HS.out;simpa [Vr] using this) q (by rw [HL.out];omega)
      omega
     have HV:=AD hV
     clear hR hC hV
     repeat' (first
      | (refine A3 78 ?_);refine A4 AA Tryz.call78 (IZ _ m h (k:Int) (i:Int) (by omega) (by omega) (by omega)) ?_;rintro e w ⟨rfl,hE⟩;replace hS:=hS.ext hE;clear hE;rw [HR.out,HCc.out];refine Ae ?_;go_step|refine X0 ?_|refine X2 ?_|refine X6 ?_|refine Vh ?_|refine AG ?_;go_step|fail)
     refine AQ [20] (fun w=>St w0 w []) AA ?_
     replace hS:=hS.drew
     focus
      refine Ab 0 ?_
      refine Ab 1 ?_
      refine Ab 2 ?_
      refine Ab 3 ?_
      refine Ab 4 ?_
      refine Ab 5 ?_
      refine Bf 6 BU (V.subI rfl rfl (by omega)) ?_;go_step
      refine Bf 7 BU (V.min rfl rfl) ?_;go_step
      refine Ab 8 ?_
      refine YM 9 ?_
      refine Ab 10 ?_
      refine Ab 11 ?_
      refine Bf 12 BU (V.subI rfl rfl (by omega)) ?_;go_step
      refine Bf 13 BU (V.min rfl rfl) ?_;go_step
      (refine Bo 14 (.int _ ((q:Int))) Am AA AA AA Ch (V.as (V.addI rfl rfl (by omega)) (by omega)) AA ?_)
      go_step
      refine O7 15 ?_
      refine WZ 16 [17,19,20] ?_
      refine Bf 17 BU (V.subI rfl rfl (by omega)) ?_;go_step
      refine Bf 18 BU (V.indexSl Tryz.underlying42 Hc rfl rfl BI (by omega) rfl BO) ?_;go_step
      refine cV 19 ?_
      refine Aa 20 ?_
      refine ar ?_;clear hS;intro w hS
      refine AE AA ?_ _
     repeat' (first
      | refine X1 ?_|refine X7 ?_|refine AG ?_;go_step|fail)
     go_roundg (gk-1)
     case measure=>omega
     case rel=>
      have hol:=hS.ownLen (e:=26) AJ
      rw [List.length_map,List.length_set] at hol
      refine ⟨i+1,_,by omega,by go_num,fun x hx=>?_,hS.sub AV⟩
      rw [CL o (k*64+i) x _ (by omega)]
      split
      ·rename_i e;rw [←e,HV.out]
      exact HO.out x (by omega)
    obtain rfl:i=64:=by omega
    repeat' (first
     | refine X1 ?_|refine X2 ?_|refine X7 ?_|refine AG ?_;go_step|fail)
    go_roundg (gk1-1)
    case measure=>omega
    case rel=>exact ⟨k+1,o,by omega,by go_num,fun x hx=>HO.out x (by have h9:x<(k+1)*64:=hx;omega),hS.sub AV⟩
  obtain rfl:k=K:=by omega
  have hol:=hS.ownLen (e:=26) AJ
  rw [List.length_map] at hol
  repeat' (first
   | refine X0 ?_|refine X2 ?_|refine AG ?_;go_step|fail)
  go_ret2
  refine ⟨some ⟨g36,0,none⟩,k,?_,?_⟩
  ·rw [HE.out,if_pos rfl,HK.out];rfl
  rw [if_pos HE.out,if_pos HE.out,HK.out,MI,HK.out,←Gp hol fun x hx=>HO.out x hx]
  exact hS.sub AV
def CY(l:List Int):Bool:=Bx l (-40000) 40000
def Gd(n:Nat)(m h:Int):Int:=if 1≤m∧m≤64∧1≤h∧h≤64 then if n=Aq m h then 0 else 4 else 1
def D8(l:List Int)(n:Nat)(m h:Int):Int:=if 1≤m∧m≤64∧1≤h∧h≤64 then if n=Aq m h then if CY l then 0 else 1 else 4 else 1
def FL(m:Int)(x:Nat):Int:=(x:Int)/m/8*((m+7)/8)+(x:Int)%m/8
def JF(m:Int)(x:Nat):Int:=(x:Int)/m%8*8+(x:Int)%m%8
def Lg(l:List Int)(m:Int)(x:Nat):Int:=min (max (AK l (FL m x*64+JF m x).toNat+128) 0) 255
def GR(l:List Int)(m h:Int):List Int:=Do (m*h).toNat (Lg l m)
theorem XB(m k i:Int)(hm:1≤m∧m≤64)(hk:0≤k)(hi:0≤i∧i<64)(x:Nat)(hx:(x:Int)=Ho ((m+7)/8) k i*m+Ff ((m+7)/8) k i)(hc:Ff ((m+7)/8) k i<m):FL m x=k∧JF m x=i:=by
 have q1:0≤k/((m+7)/8):=Int.ediv_nonneg hk (by omega)
 have q3:=Int.emod_nonneg k (b:=(m+7)/8) (by omega)
 have q5:=Int.mul_ediv_add_emod k ((m+7)/8)
 have e1:(x:Int)/m=Ho ((m+7)/8) k i:=by
  rw [hx,Int.add_comm,Int.add_mul_ediv_right _ _ (by omega),Int.ediv_eq_zero_of_lt (by unfold Ff;omega) hc];omega
 have e2:(x:Int)%m=Ff ((m+7)/8) k i:=by
  rw [hx,Int.add_comm,Int.add_mul_emod_self_right,Int.emod_eq_of_lt (by unfold Ff;omega) hc]
 unfold FL JF
 rw [e1,e2]
 unfold Ho Ff
 rw [show (k/((m+7)/8)*8+i/8)/8=k/((m+7)/8) by omega,show (k%((m+7)/8)*8+i%8)/8=k%((m+7)/8) by omega,Int.mul_comm (k/((m+7)/8))]
 exact ⟨q5,by omega⟩
theorem UK(m k i:Int)(hm:1≤m∧m≤64)(x:Nat)(hk:FL m x=k)(hi:JF m x=i):Ho ((m+7)/8) k i=(x:Int)/m∧Ff ((m+7)/8) k i=(x:Int)%m:=by
 subst hk;subst hi
 have q3:=Int.emod_nonneg (x:Int) (b:=m) (by omega)
 have q4:=Int.emod_lt_of_pos (x:Int) (b:=m) (by omega)
 have q1:0≤(x:Int)/m:=Int.ediv_nonneg (by omega) (by omega)
 have e1:FL m x/((m+7)/8)=(x:Int)/m/8:=by
  unfold FL
  rw [Int.add_comm,Int.add_mul_ediv_right _ _ (by omega),Int.ediv_eq_zero_of_lt (by omega) (by omega)];omega
 have e2:FL m x%((m+7)/8)=(x:Int)%m/8:=by
  unfold FL
  rw [Int.add_comm,Int.add_mul_emod_self_right,Int.emod_eq_of_lt (by omega) (by omega)]
 unfold Ho Ff
 rw [e1,e2]
 unfold JF
 exact ⟨by omega,by omega⟩
theorem Hd(m h:Int)(hm:1≤m∧m≤64)(hh:1≤h∧h≤64)(x:Nat)(hx:(x:Int)<m*h):0≤FL m x∧FL m x<Aq m h∧0≤JF m x∧JF m x<64∧(x:Int)/m<h∧(x:Int)%m<m:=by
 have q3:=Int.emod_nonneg (x:Int) (b:=m) (by omega)
 have q4:=Int.emod_lt_of_pos (x:Int) (b:=m) (by omega)
 have q1:0≤(x:Int)/m:=Int.ediv_nonneg (by omega) (by omega)
 have q2:(x:Int)/m<h:=Int.ediv_lt_of_lt_mul (by omega) (by rw [Int.mul_comm];exact hx)
 have r1:(x:Int)/m/8≤(h+7)/8-1:=by omega
 have r2:(x:Int)%m/8<(m+7)/8:=by omega
 have r3:(x:Int)/m/8*((m+7)/8)≤((h+7)/8-1)*((m+7)/8):=Int.mul_le_mul_of_nonneg_right r1 (by omega)
 have r4:((h+7)/8-1)*((m+7)/8)=(m+7)/8*((h+7)/8)-(m+7)/8:=by rw [Int.sub_mul,Int.one_mul,Int.mul_comm]
 have r5:0≤(x:Int)/m/8*((m+7)/8):=Int.mul_nonneg (by omega) (by omega)
 unfold FL JF Aq
 refine ⟨by omega,by omega,by omega,by omega,q2,q4⟩
theorem Le(n:Int)(w:World):Calls Tryz.prog 128 #[.int .i64 n] w fun e w'=>e= .returned (.bool (decide (n< -40000)||decide (40000<n)))∧w=w':=by
 go_enter Tryz.func128,Tryz.ntmps128
 repeat' (first
  | go_skip|((first|(with_reducible refine JG ?_)|(with_reducible refine QW ?_));(first|go_big_want|go_step);go_step)|((with_reducible refine An _ (.pick _ _ _) ?_);first|(refine BJ rfl AA ?_;go_step)|(refine BC rfl AA ?_;go_step))|((refine AS 4 ?_);(refine Cg _ (V.lss rfl rfl) AA (fun hB=>?_) (fun hB=>?_)<;>(try exact AW)<;>go_step))|((with_reducible refine An _ (.binOp .gtr _ _ _ _) ?_);(refine As AA (V.gtr rfl rfl) ?_;go_step))|(refine AG ?_;go_step)|fail)
 all_goals (go_ret;exact ⟨DD (by simp;omega),rfl⟩)
theorem Jm(l:List Int):(l.any fun n=>decide (n< -40000)||decide (40000<n))= !CY l:=by unfold CY Bx;simp
def DR(E0:Int)(l:List Int)(k:Nat):Int:=if E0=0 then if CY (l.take (k*64)) then 0 else 1 else E0
theorem ER(l:List Int)(k n:Nat)(hl:l.length=n*64)(hk:k<n):CY (l.take ((k+1)*64))=(CY (l.take (k*64))&&CY (Bm l 64 k)):=by
 have:l.take ((k+1)*64)=l.take (k*64)++Bm l 64 k:=by
  unfold Bm;rw [←List.take_add];congr 1;omega
 rw [this];unfold CY Bx;simp
theorem OE{E0:Int}{l:List Int}{k n:Nat}(h:0=DR E0 l k)(hl:l.length=n*64)(hk:k<n)(hs:CY (Bm l 64 k)=true):0=DR E0 l (k+1):=by
 unfold DR at*
 rw [ER l k n hl hk,hs,Bool.and_true]
 exact h
theorem Po{E0:Int}{l:List Int}{k n:Nat}(h:0=DR E0 l k)(hl:l.length=n*64)(hk:k<n)(hs:CY (Bm l 64 k)=false):1=DR E0 l (k+1):=by
 unfold DR at*
 rw [ER l k n hl hk,hs,Bool.and_false]
 split at h
 ·rename_i h0;rw [if_pos h0];rfl
 rename_i h0;exact absurd h.symm h0
theorem OF{E0 E:Int}{l:List Int}{k n:Nat}(h:E=DR E0 l k)(h0:E≠0)(hl:l.length=n*64)(hk:k<n):E=DR E0 l (k+1):=by
 unfold DR at*
 rw [ER l k n hl hk]
 split at h
 ·rename_i h1
  rw [if_pos h1]
  split at h
  ·exact absurd h h0
  rename_i h2;rw [h];rw [if_neg];simp [h2]
 rename_i h1;rw [if_neg h1];exact h
theorem Pp{l:List Int}{n:Nat}{m h:Int}(h0:D8 l n m h=0):(1≤m∧m≤64∧1≤h∧h≤64)∧n=Aq m h∧CY l=true:=by
 unfold D8 at h0
 split at h0
 ·rename_i h1
  split at h0
  ·rename_i h2
   split at h0
   ·rename_i h3;exact ⟨h1,h2,h3⟩
   exact absurd h0 (by decide)
  exact absurd h0 (by decide)
 exact absurd h0 (by decide)
def Fq(w0:World)(l:List Int)(n:Nat)(m h:Int)(e:Ending)(w:World):Prop:=
 ∃ad c,e= .returned (.tuple #[.slice ad (if D8 l n m h=0 then (m*h).toNat else 0) c, .int .i64 (D8 l n m h)])∧St w0 w [own 3 1 ad (if D8 l n m h=0 then (m*h).toNat else 0) c ((if D8 l n m h=0 then GR l m h else []).map (Value.int .i64))]
theorem XA{w0 w:World}{l:List Int}{n:Nat}{m h:Int}(E:Int)(h1:D8 l n m h=E)(h2:E≠0)(hE:Al w0 w):Fq w0 l n m h (.returned (.tuple #[.slice none 0 0, .int .i64 E])) w:=by
 refine ⟨none,0,?_,?_⟩
 ·rw [h1,if_neg h2]
 rw [if_neg (by rw [h1];exact h2),if_neg (by rw [h1];exact h2)];exact (St.of_ext hE).nil _ _
theorem UJ(w0:World)(ad:Option Addr)(n c:Nat)(l:List Int)(m h:Int)(hm64: -9223372036854775808≤m∧m≤9223372036854775807)(hn:n≤9223372036854775807)(hv:Sl w0 64 (.slice ad n c) n (l.map (Value.int .i64)))(hbad:D8 l n m h≠0):
 Calls Tryz.prog 95 #[.slice ad n c, .int .i64 m, .int .i64 h] w0 (Fq w0 l n m h):=by
 have hl:l.length=n*64:=by have:=hv.1;simpa using this
 have hS:=St.start w0
 have HL:=AD hl
 clear hl
 have hEx:D8 l n m h=DR (Gd n m h) l n:=by
  unfold D8 DR Gd
  rw [show l.take (n*64)=l by rw [←HL.out];exact List.take_length]
  by_cases h1:1≤m∧m≤64∧1≤h∧h≤64
  ·simp only [if_pos h1]
   by_cases h2:n=Aq m h
   ·simp only [if_pos h2,if_true]
   simp only [if_neg h2];rfl
  simp only [if_neg h1];rfl
 have HEx:=AD hEx
 clear hEx
 obtain ⟨A,hA⟩:∃A:Int,(if 1≤m∧m≤64∧1≤h∧h≤64 then 0 else 1)=A:=⟨_,rfl⟩
 have HA:=AD hA
 have hA3:A=0∧Gd n m h=0∧(1≤m∧m≤64∧1≤h∧h≤64)∧n=Aq m h∨A=0∧Gd n m h=4∧(1≤m∧m≤64∧1≤h∧h≤64)∧n≠Aq m h∨A=1∧Gd n m h=1∧True∧True:=by
  unfold Gd
  by_cases h1:1≤m∧m≤64∧1≤h∧h≤64
  ·rw [if_pos h1] at hA
   rw [if_pos h1]
   by_cases h2:n=Aq m h
   ·rw [if_pos h2];exact .inl ⟨hA.symm,rfl,h1,h2⟩
   rw [if_neg h2];exact .inr (.inl ⟨hA.symm,rfl,h1,h2⟩)
  rw [if_neg h1] at hA
  rw [if_neg h1];exact .inr (.inr ⟨hA.symm,rfl,trivial,trivial⟩)
 clear hA
 have hK:∀(h1:1≤m∧m≤64∧1≤h∧h≤64),(m+7)/8*((h+7)/8)=((Aq m h:Nat):Int)∧Aq m h≤64:=fun h1=>by
  obtain ⟨kk0,kk1⟩:=Ds ((m+7)/8) ((h+7)/8) 8 8 (by omega) (by omega)
  have kk2:0≤((m+7)/8)*((h+7)/8):=Int.mul_nonneg (by omega) (by omega)
  unfold Aq;omega
 rcases hA3 with ⟨a1,a2,a3,a4⟩|⟨a1,a2,a3,a4⟩|⟨a1,a2,a3,a4⟩
 all_goals
  try (have hKK:=hK a3;obtain ⟨hK1,hK2⟩:=hKK)
  clear hK
  subst a1
  have H0:=AD a2
  clear a2
  go_enter Tryz.func95,Tryz.ntmps95
  repeat' (first
   | (refine A3 58 ?_);refine A4 AA Tryz.call58 (Cx _ m h) ?_;rintro e w ⟨rfl,hE⟩;replace hS:=hS.ext hE;clear hE;rw [HA.out];refine Ae ?_;go_step|(refine A3 59 ?_);refine A4 AA Tryz.call59 (Hg _ m h (by omega) (by omega)) ?_;rintro e w ⟨rfl,hE⟩;replace hS:=hS.ext hE;clear hE;rw [hK1];refine Ae ?_;go_step|go_skip|refine X0 ?_|refine IL ?_|refine IA 25 ?_ ?_<;>intro hB<;>(try exact AW)<;>go_step|refine Zh 21 ?_|refine TF ?_|refine IJ ?_|refine ZV 8 ?_;clear hS;intro g8 w hS|refine ZY ?_;clear hS;intro w hS|refine Vh ?_|refine AG ?_;go_step|fail)
  go_loopg [9,35] n (fun gk ev kv w=>∃(k:Nat) (E:Int),gk+k=n∧kv= .int .i64 k∧ev= .int .i64 E∧E=DR (Gd n m h) l k∧St w0 w [blk g8 [.int .i64 m, .int .i64 h]])
  case atStart=>exact ⟨0,_,rfl,rfl,rfl,by rw [H0.out];simp [DR,CY,Bx],hS.sub AV⟩
  case round=>
   clear hS
   obtain ⟨k,E,hk,rfl,rfl,hE,hS⟩:=hrel
   have HE:=AD hE
   clear hE
   by_cases hlt:k<n
   ·have ls:Ap (Bm l 64 k) 64:=CM l 64 k n HL.out hlt
    have HN:=AD (ER l k n HL.out hlt)
    by_cases hz:E=0
    ·subst hz
     cases hb:CY (Bm l 64 k)
     all_goals
      have HB:=AD hb
      clear hb
      repeat' (first
       | (refine A3 76 ?_);refine A4 AA Tryz.call76 (BG _ _ (Bm l 64 k) (hS.isl AJ (by omega)) 128 #[] (fun n=>decide (n< -40000)||decide (40000<n)) Tryz.call128 (fun n=>Le n _)) ?_;rintro e w' ⟨rfl,rfl⟩;rw [Jm,HB.out];refine Ae ?_;go_step|refine X0 ?_|refine FJ ?_|refine IA 40 ?_ ?_<;>intro hB<;>(try exact AW)<;>go_step|refine X2 ?_|refine YA 37 ?_;intro b37 o37 hl37 hc37;go_step|refine Zf ?_|refine X7 ?_|refine WI ?_|refine JL 11 ?_;clear hS;intro g11 w hS|refine Ew ?_;clear hS;intro w hS|refine AG ?_;go_step|fail)
      all_goals
       go_roundg (gk-1)
       case measure=>omega
       case rel=>
        exact ⟨k+1,_,by omega,by go_num,rfl,by first|exact OE HE.out HL.out hlt HB.out|exact Po HE.out HL.out hlt HB.out,hS.sub AV⟩
    repeat' (first
     | go_big_skip|((with_reducible refine JG ?_);(first|go_big_want|go_step);go_step)|((with_reducible refine An _ (.pick _ _ _) ?_);(refine BC rfl AA ?_;go_step))|((refine AS 40 ?_);(refine Cg _ (V.eql rfl rfl) AA (fun hB=>?_) (fun hB=>?_)<;>(try exact AW)<;>go_step))|((with_reducible refine An _ (.binOp .lss _ _ _ _) ?_);(refine As AA (V.lss rfl rfl) ?_;go_step))|((refine AS 37 ?_);(refine Kt (by with_reducible assumption) Tryz.underlying42 Hc rfl rfl BI (by omega) AA ?_;intro b37 o37 hl37 hc37;go_step))|((with_reducible refine An _ (.binOp .add _ _ _ _) ?_);(refine As AA (V.addI rfl rfl (by omega)) ?_;go_step))|((with_reducible refine An _ (.load 26 _) ?_);(refine Ag ?_;apply DV hS 26 _ rfl _ _ rfl 64 (AP rfl) _;(case hl=>with_reducible assumption);(case hr=>with_reducible assumption);refine AB ?_;go_step))|((refine AS 11 ?_);(refine Ag ?_;apply L5 (o:=⟨some 11,_,_,_,_,_⟩) hS 26 rfl (List.replicate 64 0) 64 List.length_replicate cQ;clear hS;intro g11 w hS;refine AB ?_;go_step))|((with_reducible refine An _ (.store 26 _ _) ?_);(refine Ag ?_;apply MA hS 26 _ _ rfl _ rfl 64 (AP rfl) _ _;(case hp=>exact AJ);(case hy=>rfl);(case hm=>(repeat (first|assumption|exact Ap.rep|apply Ap.set|((with_reducible show Ap (_::_) _);exact rfl))));(case hd=>exact rfl);clear hS;intro w hS))|(refine AG ?_;go_step)|fail)
    go_roundg (gk-1)
    case measure=>omega
    case rel=>exact ⟨k+1,_,by omega,by go_num,rfl,OF HE.out hz HL.out hlt,hS.sub AV⟩
   obtain rfl:k=n:=by omega
   have hE:=HE.out.trans HEx.out.symm
   clear HE
   have hz:E≠0:=by rw [hE];exact hbad
   have HJ:=AD hE
   clear hE
   repeat' (first
    | refine X0 ?_|refine X2 ?_|refine X3 ?_|refine AG ?_;go_step|fail)
   go_ret2
   exact XA E HJ.out.symm hz hS.1
def ay(q b:List Int):List Int:=De (ce b) q
def O8(q l:List Int):Nat→List Int
 | 0=>[]
 | n+1=>O8 q l n++ay q (Bm l 64 n)
def Xs(q b:List Int):List Int:=(VP (PC b q)).map fun n=>min (max n (-40000)) 40000
def ND(q l:List Int):Nat→List Int
 | 0=>[]
 | n+1=>ND q l n++Xs q (Bm l 64 n)
theorem MK(q b:List Int)(hq:q.length=64):(ay q b).length=64:=Fw _ _ (FG _ _) hq
theorem NC(q b:List Int):(Xs q b).length=64:=by unfold Xs;rw [List.length_map];exact FG _ _
theorem G7(q l:List Int)(hq:q.length=64):∀n,(O8 q l n).length=n*64
 | 0=>by simp [O8]
 | n+1=>by rw [O8,List.length_append,G7 q l hq n,MK q _ hq];omega
theorem RY(q l:List Int):∀n,(ND q l n).length=n*64
 | 0=>by simp [ND]
 | n+1=>by rw [ND,List.length_append,RY q l n,NC];omega
theorem Oe{a b:List Int}{n k:Nat}(ha:a.length=n*64)(hk:k<n):Bm (a++b) 64 k=Bm a 64 k:=by
 unfold Bm
 rw [List.drop_append_of_le_length (by omega),List.take_append_of_le_length (by rw [List.length_drop];omega)]
theorem Ux{a b:List Int}{n:Nat}(ha:a.length=n*64)(hb:b.length=64):Bm (a++b) 64 n=b:=by
 unfold Bm
 rw [←ha,List.drop_left,List.take_of_length_le (by omega)]
theorem Qk(q l:List Int)(hq:q.length=64):∀n k,k<n→Bm (O8 q l n) 64 k=ay q (Bm l 64 k)
 | 0,k,h=>by omega
 | n+1,k,h=>by
   rw [O8]
   by_cases hk:k<n
   ·rw [Oe (G7 q l hq n) hk];exact Qk q l hq n k hk
   obtain rfl:k=n:=by omega
   exact Ux (G7 q l hq k) (MK q _ hq)
def IW(m h:Int):List (List Int)→Int
 | []=>0
 | l::L=>if Cf l l.length m h=0 then IW m h L else Cf l l.length m h
def E9(m h:Int)(L:List (List Int)):Int:=if 1≤m∧m≤64∧1≤h∧h≤64 then if L.length=1∨L.length=3 then IW m h L else 1 else 1
def z3(f:Int→Int→Int→Int)(a b c:List Int):List Int:=Do a.length fun i=>f (AK a i) (AK b i) (AK c i)
def Cc(f1 f2 f3:Int→Int→Int→Int)(L:List (List Int)):List (List Int):=match L with
 | [a,b,c]=>[z3 f1 a b c,z3 f2 a b c,z3 f3 a b c]
 | _=>L
theorem Ij(f1 f2 f3:Int→Int→Int→Int)(L:List (List Int)):(Cc f1 f2 f3 L).length=L.length:=by
 unfold Cc;split<;>rfl
def J4(m h:Int)(q:List Int)(L:List (List Int)):Int:=if E9 m h L=0 then if JH q then 0 else 1 else E9 m h L
def IC(m h:Int)(q:List Int):List (List Int)→List Int
 | []=>[]
 | l::L=>O8 q (MI l m h) (Aq m h)++IC m h q L
def LC(m h:Int)(q:List Int)(L:List (List Int)):List Int:=IC m h q (Cc NP NN NO L)
theorem RB(m h:Int)(q:List Int)(hq:q.length=64):∀L:List (List Int),(IC m h q L).length=L.length*Aq m h*64
 | []=>by simp [IC]
 | l::L=>by
   rw [IC,List.length_append,G7 q _ hq,RB m h q hq L,List.length_cons,Nat.add_mul,Nat.one_mul,Nat.add_mul]
   omega
theorem OU(m h:Int)(q:List Int)(l:List Int):∀L:List (List Int),IC m h q (L++[l])=IC m h q L++O8 q (MI l m h) (Aq m h)
 | []=>by simp [IC]
 | x::L=>by rw [List.cons_append,IC,IC,OU m h q l L,List.append_assoc]
def Xa(m h:Int)(q l:List Int)(n:Nat):Nat→List (List Int)
 | 0=>[]
 | k+1=>Xa m h q l n k++[GR (ND q ((l.drop (k*n*64)).take (n*64)) n) m h]
def YT(m h:Int)(q l:List Int)(n k:Nat):List (List Int):=Cc Iw Iv Iu (Xa m h q l n k)
theorem RI(m h:Int)(q l:List Int)(n:Nat):∀k,(Xa m h q l n k).length=k
 | 0=>rfl
 | k+1=>by rw [Xa,List.length_append,RI m h q l n k];rfl
end Go.Proofs.YtohacgmhmbijmaaGreatDoor
namespace Go.Proofs.YtohacgmhmbijmaaGreatDoor
attribute [local irreducible] Region.wanted
open Go.ChangeShapes Go.WideShapes Go.ChangeAt Go.RowKit
set_option linter.unusedVariables false
set_option maxRecDepth 100000
set_option maxHeartbeats 8000000
theorem XL{P:Program}{W:World}{base:Nat}{u:TypeId}{v:Value}(hu:P.underlying u=some (.int .i64))(h:Cell.okWide P W .any base u v):
 ∃n:Int,v= .int .i64 n∧ -9223372036854775808≤n∧n≤9223372036854775807:=by
 unfold Cell.okWide at h
 rw [hu] at h
 dsimp only at h
 unfold Cell.ok at h
 rw [hu] at h
 cases v<;>simp only at h
 case int k n=>
  obtain ⟨rfl,h⟩:=h
  refine ⟨n,rfl,?_⟩
  simp only [IntKind.has] at h
  have h1:IntKind.i64.min= -9223372036854775808:=rfl
  have h2:IntKind.i64.max=9223372036854775807:=rfl
  simp only [h1,h2] at h
  simpa using h
theorem Z5{P:Program}{W:World}{base:Nat}{t:TypeId}{v:Value}{ts:List TypeId}(hd:(match P.underlying t with|some (.struct _)|some (.array _ _)=>true|_=>false)=true)
 (hts:P.cellTypes P.depth t=some ts) (hall:∀u∈ts,P.underlying u=some (.int .i64)) (ho:Value.okWide P W .any base t v):
 ∃l:List Int,l.length=P.cellsOf t∧v= .agg (iv l)∧∀i,i<l.length→ -9223372036854775808≤AK l i∧AK l i≤9223372036854775807:=by
 have h':∃cs,v= .agg cs∧cs.size=P.cellsOf t∧Row.okWide P W .any base t cs:=by
  unfold Value.okWide at ho
  split at ho
  ·exact ho
  ·exact ho
  rename_i h1 h2
  split at hd
  ·rename_i x h3;exact absurd h3 (h1 x)
  ·rename_i x y h3;exact absurd h3 (h2 x y)
  cases hd
 obtain ⟨cs,rfl,hsz,ts',hts',_,hcells⟩:=h'
 rw [hts] at hts'
 cases hts'
 have key:∀i,i<cs.size→∃n:Int,cs[i]? =some (.int .i64 n)∧ -9223372036854775808≤n∧n≤9223372036854775807:=by
  intro i hi
  obtain ⟨u,hu,hc⟩:=hcells i cs[i] (by simp [hi])
  obtain ⟨n,hn,hb⟩:=XL (hall u (List.mem_of_getElem? hu)) hc
  exact ⟨n,by simp [hi,hn],hb⟩
 refine ⟨(List.range cs.size).map fun i=>intOf (cs[i]?.getD undef),by simp [hsz],?_,?_⟩
 ·congr 1
  apply Array.ext_getElem?
  intro i
  by_cases hi:i<cs.size
  ·obtain ⟨n,hn,_⟩:=key i hi
   simp only [iv,List.map_map,List.getElem?_toArray,List.getElem?_map,List.getElem?_range hi,Option.map_some,Function.comp]
   rw [hn];rfl
  simp [iv,List.getElem?_eq_none (show (List.range cs.size).length≤i by simp;omega)]
  omega
 intro i hi
 have hi':i<cs.size:=by simpa using hi
 obtain ⟨n,hn,hb⟩:=key i hi'
 have e:AK ((List.range cs.size).map fun i=>intOf (cs[i]?.getD undef)) i=n:=by
  simp only [AK,List.getD,List.getElem?_map,List.getElem?_range hi',Option.map_some,Option.getD_some]
  rw [hn];rfl
 rw [e];exact hb
end Go.Proofs.YtohacgmhmbijmaaGreatDoor
namespace Go.Proofs.YtohacgmhmbijmaaGreatDoor
attribute [local irreducible] Region.wanted
open Go.ChangeShapes Go.WideShapes Go.ChangeAt Go.RowKit Go.Deep
set_option linter.unusedVariables false
set_option maxRecDepth 100000
set_option maxHeartbeats 8000000
def Fr(P:Program)(k:IntKind):Nat→TypeId→Bool
 | 0,_=>false
 | d+1,t=>match P.underlying t with
   | some (.int k')=>decide (k'=k)&&P.cellsOf t==1
   | some (.array n e)=>Fr P k d e&&P.cellsOf t==n*P.cellsOf e
   | some (.struct fs)=>fs.toList.all (fun f=>Fr P k d f.type)&&(List.range (P.cellsOf t)).all fun j=>fs.toList.any fun f=>decide (f.offset≤j)&&decide (j<f.offset+P.cellsOf f.type)
   | _=>false
theorem Sv{H:Type}{enc:TypeId×Value→H}{P:Program}{W:World}{base:Nat}{sp:Nat→Bool}{held:Bool}(k:IntKind):∀(d:Nat)(t:TypeId),Fr P k d t=true→∀(fuel:Nat)(cs:List Value)(x:DataW H×List MemPlace),
 DataW.trod enc P W base sp held fuel t cs=some x→cs.length=P.cellsOf t∧∀j,j<cs.length→∃n,cs[j]? =some (.int k n)∧(Lit.int k n).wf=true:=by
 intro d
 induction d with
 | zero=>intro t h;simp [Fr] at h
 | succ d ih=>
   intro t ht fuel cs x h
   unfold Fr at ht
   split at ht
   ·rename_i k' hu
    simp only [Bool.and_eq_true,decide_eq_true_eq,beq_iff_eq] at ht
    obtain ⟨rfl,hc⟩:=ht
    obtain ⟨n,rfl,_,hw⟩:=DataW.trod_int hu h
    refine ⟨by simp [hc],fun j hj=>?_⟩
    obtain rfl:j=0:=by simp at hj;omega
    exact ⟨n,rfl,hw⟩
   ·rename_i n e hu
    simp only [Bool.and_eq_true,beq_iff_eq] at ht
    obtain ⟨he,hc⟩:=ht
    obtain ⟨xs,m,_,_,hl,hxl,hf⟩:=DataW.trod_array hu h
    refine ⟨hl,fun j hj=>?_⟩
    rw [hl,hc] at hj
    have hcp:0<P.cellsOf e:=by
     rcases Nat.eq_zero_or_pos (P.cellsOf e) with h0|h0
     ·rw [h0] at hj;simp at hj
     exact h0
    have hjn:j/P.cellsOf e<n:=by rw [Nat.div_lt_iff_lt_mul hcp];exact hj
    have hfe:=hf (j/P.cellsOf e) hjn
    rw [List.getElem?_eq_getElem (by omega)] at hfe
    obtain ⟨hl2,hv⟩:=ih e he m _ _ hfe
    have hm:=Nat.mod_lt j hcp
    obtain ⟨v,hv1,hv2⟩:=hv (j%P.cellsOf e) (by rw [hl2];exact hm)
    refine ⟨v,?_,hv2⟩
    rw [List.getElem?_take,if_pos hm,List.getElem?_drop] at hv1
    rwa [show j/P.cellsOf e*P.cellsOf e+j%P.cellsOf e=j by rw [Nat.mul_comm];exact Nat.div_add_mod j _] at hv1
   ·rename_i fs hu
    simp only [Bool.and_eq_true] at ht
    obtain ⟨he,hc⟩:=ht
    obtain ⟨xs,m,_,_,hl,hxl,hf⟩:=DataW.trod_struct hu h
    refine ⟨hl,fun j hj=>?_⟩
    rw [List.all_eq_true] at he hc
    have h1:=hc j (List.mem_range.2 (by omega))
    rw [List.any_eq_true] at h1
    obtain ⟨f,hfm,h1⟩:=h1
    simp only [Bool.and_eq_true,decide_eq_true_eq] at h1
    obtain ⟨i,hi,hfi⟩:=List.getElem_of_mem hfm
    have hi':i<fs.size:=by simpa using hi
    have hfe:=hf i f (by rw [Array.getElem?_eq_getElem hi'];simpa using hfi)
    rw [List.getElem?_eq_getElem (by omega)] at hfe
    obtain ⟨hl2,hv⟩:=ih f.type (he f hfm) m _ _ hfe
    obtain ⟨v,hv1,hv2⟩:=hv (j-f.offset) (by rw [hl2];omega)
    refine ⟨v,?_,hv2⟩
    rw [List.getElem?_take,if_pos (by omega),List.getElem?_drop,show f.offset+(j-f.offset)=j by omega] at hv1
    exact hv1
   cases ht
theorem P1{H:Type}{enc:TypeId×Value→H}{P:Program}{W:World}{t e:TypeId}{v:Value}{x:DataW H×List MemPlace}{fuel:Nat}(k:IntKind)(ht:P.underlying t=some (.slice e))(dp:Nat)(he:Fr P k dp e=true)
 (s:Nat) (hs:P.cellsOf e=s) (hs0:0<s) (h:DataW.trod enc P W 0 (fun _=>true) true fuel t [v]=some x):
 ∃(n:Nat) (ns:List Int),ns.length=n*s∧Sl W s v n (ns.map (Value.int k))∧∀i,i<ns.length→(Lit.int k (AK ns i)).wf=true:=by
 rcases open_slice ht h with ⟨h0,_⟩|⟨a,len,cap,m,n,D,Pl,hcs,hb,hl,hm,hmm,_,hx⟩
 ·obtain rfl:v= .slice none 0 0:=by simpa using h0
  exact ⟨0,[],by simp,Sl.nil W s,fun i hi=>by simp at hi⟩
 obtain rfl:v= .slice (some a) len cap:=by simpa using hcs
 have hmc:m=cap:=by simpa using hmm
 subst hmc
 have each:∀i,i<len*s→∃q:Int,W.cell? (a.add i)=some (.int k q)∧(Lit.int k q).wf=true:=by
  intro i hi
  have hsp:0<s:=by
   rcases Nat.eq_zero_or_pos s with h0|h0
   ·rw [h0] at hi;simp at hi
   exact h0
  have hil:i/s<len:=by rw [Nat.div_lt_iff_lt_mul hsp];exact hi
  obtain ⟨cs',h1,h2⟩:=hx (i/s) (by omega)
  rw [hs] at h1
  obtain ⟨hl3,hv3⟩:=Sv k dp e he _ _ _ h2
  obtain ⟨_,hl4,hc4⟩:=World.cells?_some h1
  have hm3:=Nat.mod_lt i hsp
  obtain ⟨q,hq1,hq2⟩:=hv3 (i%s) (by rw [hl4];exact hm3)
  refine ⟨q,?_,hq2⟩
  rw [←hq1,←hc4 (i%s) hm3,Go.Deep.add_add,show i/s*s+i%s=i by rw [Nat.mul_comm];exact Nat.div_add_mod i _]
 obtain ⟨f,hf⟩:=choose_lt each
 refine ⟨len,(List.range (len*s)).map f,by simp,⟨by simp,some a,m,rfl,hl,hm,?_⟩,?_⟩
 ·rcases Nat.eq_zero_or_pos (len*s) with h0|h0
  ·rcases Nat.eq_zero_or_pos len with h1|h1
   ·exact .inl h1
   exact absurd h0 (by have:=Nat.mul_pos h1 hs0;omega)
  refine .inr ?_
  have hc0:=(hf 0 h0).1
  have hspot:a.spot=none:=by
   rw [show a.add 0=a from rfl] at hc0
   unfold World.cell? at hc0
   split at hc0
   ·split at hc0
    ·cases hc0
    rename_i hh;simpa using hh
   cases hc0
  refine ⟨a.block,a.off,by cases a;simp at hspot;simp [hspot],fun i hi=>?_⟩
  have hci:=(hf i hi).1
  have haddr:a.add i=⟨a.block,a.off+i,none⟩:=by
   unfold Addr.add
   split
   ·rename_i h0;subst h0;cases a;simp at hspot;simp [hspot]
   rfl
  rw [haddr] at hci
  rw [hci]
  simp [hi]
 intro i hi
 have hi':i<len*s:=by simpa using hi
 have:=(hf i hi').2
 simpa [AK,List.getD,hi'] using this
theorem Z3{P:Program}{W:World}{base:Nat}{t:TypeId}{v:Value}(hd:(match P.underlying t with|some (.struct _)|some (.array _ _)=>true|_=>false)=true)(ho:Value.okWide P W .any base t v):∃cs,v= .agg cs:=by
 unfold Value.okWide at ho
 split at ho
 ·obtain ⟨cs,h,_⟩:=ho;exact ⟨cs,h⟩
 ·obtain ⟨cs,h,_⟩:=ho;exact ⟨cs,h⟩
 rename_i h1 h2
 split at hd
 ·rename_i x h3;exact absurd h3 (h1 x)
 ·rename_i x y h3;exact absurd h3 (h2 x y)
 cases hd
theorem Kj(n:Int):(Lit.int .i64 n).wf=true↔ -9223372036854775808≤n∧n≤9223372036854775807:=by
 simp only [Lit.wf,Bool.and_eq_true,decide_eq_true_eq]
 have h1:IntKind.i64.min= -9223372036854775808:=rfl
 have h2:IntKind.i64.max=9223372036854775807:=rfl
 rw [h1,h2]
end Go.Proofs.YtohacgmhmbijmaaGreatDoor
namespace Go.Proofs.YtohacgmhmbijmaaGreatDoor
attribute [local irreducible] Region.wanted
set_option linter.unusedVariables false
set_option maxRecDepth 100000
set_option maxHeartbeats 8000000
def Ec(l:List Bool):Nat:=l.foldl (fun a b=>2*a+b.toNat) 0
theorem UX(l:List Bool):∀a,l.foldl (fun a b=>2*a+b.toNat) a=a*2^l.length+Ec l:=by
 induction l with
 | nil=>intro a;simp [Ec]
 | cons b l ih=>
   intro a
   simp only [Ec,List.foldl_cons,List.length_cons]
   rw [ih,ih (2*0+b.toNat),Nat.pow_succ,Nat.add_mul,Nat.mul_assoc,Nat.mul_zero,Nat.zero_add]
   have e:a*(2^l.length*2)=2*(a*2^l.length):=by rw [←Nat.mul_assoc,Nat.mul_comm]
   rw [e]
   omega
theorem DS(xs ys:List Bool):Ec (xs++ys)=Ec xs*2^ys.length+Ec ys:=by
 unfold Ec
 rw [List.foldl_append]
 exact UX ys _
theorem Hl(xs:List Bool)(b:Bool):Ec (xs++[b])=2*Ec xs+b.toNat:=by
 rw [DS];simp [Ec,Nat.mul_comm]
theorem Gh(l:List Bool):Ec l<2^l.length:=by
 induction l with
 | nil=>simp [Ec]
 | cons b l ih=>
   have h:=DS [b] l
   simp only [List.singleton_append] at h
   rw [h,List.length_cons,Nat.pow_succ]
   have:Ec [b]≤1:=by cases b<;>simp [Ec]
   have h2:Ec [b]*2^l.length≤1*2^l.length:=Nat.mul_le_mul_right _ this
   omega
def A2:Nat→Nat→List Bool
 | 0,_=>[]
 | w+1,v=>A2 w (v/2)++[v%2==1]
theorem At(w:Nat):∀v,(A2 w v).length=w:=by
 induction w with
 | zero=>intro v;rfl
 | succ w ih=>intro v;simp [A2,ih]
theorem KD(w:Nat):∀v,Ec (A2 w v)=v%2^w:=by
 induction w with
 | zero=>intro v;simp [A2,Ec,Nat.mod_one]
 | succ w ih=>
   intro v
   simp only [A2,Hl,ih]
   have h1:(v%2==1).toNat=v%2:=by
    rcases Nat.mod_two_eq_zero_or_one v with h|h<;>simp [h]
   rw [h1,Nat.pow_succ,Nat.mul_comm (2^w) 2,Nat.mod_mul]
   omega
theorem DZ(w v:Nat)(h:v<2^w):Ec (A2 w v)=v:=by rw [KD,Nat.mod_eq_of_lt h]
theorem Ey(l:List Bool):A2 l.length (Ec l)=l:=by
 generalize hn:l.length=n
 induction n generalizing l with
 | zero=>have:=List.eq_nil_of_length_eq_zero hn;subst this;rfl
 | succ n ih=>
   obtain ⟨l,b,rfl⟩:∃m b,l=m++[b]:=by
    have hne:l≠[]:=by intro h;subst h;simp at hn
    exact ⟨l.dropLast,l.getLast hne,(List.dropLast_concat_getLast hne).symm⟩
   rw [Hl,A2]
   have h1:(2*Ec l+b.toNat)/2=Ec l:=by cases b<;>simp<;>omega
   have h2:((2*Ec l+b.toNat)%2==1)=b:=by cases b<;>simp<;>omega
   rw [h1,h2,ih l (by simpa using hn)]
theorem XH(xs ys:List Bool)(hl:xs.length=ys.length)(h:Ec xs=Ec ys):xs=ys:=by
 rw [←Ey xs,←Ey ys,hl,h]
theorem KE(l:List Bool)(i n:Nat)(h:i+n≤l.length):Ec ((l.drop i).take n)=Ec l/2^(l.length-i-n)%2^n:=by
 have e1:l=l.take i++((l.drop i).take n++l.drop (i+n)):=by
  rw [←List.drop_drop,List.take_append_drop,List.take_append_drop]
 have hl3:(l.drop (i+n)).length=l.length-i-n:=by simp;omega
 have hl2:((l.drop i).take n).length=n:=by simp;omega
 have hlt:=Gh (l.drop (i+n))
 have hlt2:=Gh ((l.drop i).take n)
 rw [hl3] at hlt
 rw [hl2] at hlt2
 conv=>rhs;rw [e1]
 have hl0:(l.take i++((l.drop i).take n++l.drop (i+n))).length=l.length:=by rw [←e1]
 rw [hl0,DS,DS,List.length_append,hl2,hl3]
 generalize Ec (l.drop (i+n))=z at*
 generalize Ec ((l.drop i).take n)=y at*
 generalize Ec (l.take i)=x at*
 generalize l.length-i-n=m at*
 have hp:0<2^m:=Nat.two_pow_pos _
 rw [Nat.pow_add,←Nat.mul_assoc,←Nat.add_assoc,←Nat.add_mul,Nat.add_comm,Nat.add_mul_div_right _ _ hp,Nat.div_eq_of_lt hlt,Nat.zero_add,Nat.add_comm,Nat.add_mul_mod_self_right,Nat.mod_eq_of_lt hlt2]
def CI:Nat→List Bool→List Nat
 | 0,_=>[]
 | k+1,bs=>Ec (bs.take 8)::CI k (bs.drop 8)
theorem SX(k:Nat):∀bs,(CI k bs).length=k:=by
 induction k with
 | zero=>intro;rfl
 | succ k ih=>intro;simp [CI,ih]
theorem P2(k:Nat):∀bs:List Bool,CI (k+1) bs=CI k bs++[Ec ((bs.drop (8*k)).take 8)]:=by
 induction k with
 | zero=>intro bs;simp [CI]
 | succ k ih=>
   intro bs
   rw [CI,ih,CI,List.cons_append,List.drop_drop]
   congr 3
   rw [show 8+8*k=8*(k+1) by omega]
theorem Me(k:Nat):∀(bs cs:List Bool),8*k≤bs.length→CI k (bs++cs)=CI k bs:=by
 induction k with
 | zero=>intros;rfl
 | succ k ih=>
   intro bs cs h
   rw [CI,CI,List.take_append_of_le_length (by omega),List.drop_append_of_le_length (by omega),ih _ _ (by simp;omega)]
theorem Uf(k:Nat):∀bs,∀x∈CI k bs,x<256:=by
 induction k with
 | zero=>intro bs x hx;simp [CI] at hx
 | succ k ih=>
   intro bs x hx
   rw [CI,List.mem_cons] at hx
   rcases hx with rfl|hx
   ·have h:=Gh (bs.take 8)
    have h2:(bs.take 8).length≤8:=by simp;omega
    have h3:2^(bs.take 8).length≤2^8:=Nat.pow_le_pow_right (by omega) h2
    omega
   exact ih _ x hx
def BK(l:List Nat):List Bool:=l.flatMap (A2 8)
theorem CO(l:List Nat):(BK l).length=8*l.length:=by
 induction l with
 | nil=>rfl
 | cons x l ih=>simp [BK,At] at*;omega
theorem NB(k:Nat):∀bs:List Bool,8*k≤bs.length→BK (CI k bs)=bs.take (8*k):=by
 induction k with
 | zero=>intro bs _;rfl
 | succ k ih=>
   intro bs h
   have h8:(bs.take 8).length=8:=by simp;omega
   have e:A2 8 (Ec (bs.take 8))=bs.take 8:=by
    have:=Ey (bs.take 8)
    rwa [h8] at this
   simp only [CI,BK,List.flatMap_cons] at*
   rw [e,ih _ (by simp;omega),show 8*(k+1)=8+8*k by omega,List.take_add]
theorem Hm(l:List Nat)(h:∀x∈l,x<256):CI l.length (BK l)=l:=by
 induction l with
 | nil=>rfl
 | cons x l ih=>
   have hx:=h x (by simp)
   simp only [BK,List.flatMap_cons,List.length_cons,CI] at*
   rw [List.take_left' (At 8 x),List.drop_left' (At 8 x),KD,ih (fun y hy=>h y (by simp [hy])),Nat.mod_eq_of_lt (by omega)]
def Be(bs:List Bool):List Bool:=List.replicate ((8-bs.length%8)%8) true
def bytesOf(bs:List Bool):List Nat:=CI ((bs.length+7)/8) (bs++Be bs)
theorem Fe(bs:List Bool):(bs++Be bs).length=8*((bs.length+7)/8):=by
 simp [Be];omega
theorem FV(bs:List Bool):(bytesOf bs).length=(bs.length+7)/8:=SX _ _
theorem Fp(bs:List Bool):BK (bytesOf bs)=bs++Be bs:=by
 rw [bytesOf,NB _ _ (by rw [Fe];exact Nat.le_refl _),←Fe,List.take_length]
theorem D4(bs:List Bool):∀x∈bytesOf bs,x<256:=Uf _ _
theorem Jp(w v i:Nat)(h:i<w):(A2 w v)[i]? =some (v/2^(w-1-i)%2==1):=by
 induction w generalizing v i with
 | zero=>omega
 | succ w ih=>
   rw [A2]
   by_cases hi:i<w
   ·rw [List.getElem?_append_left (by rw [At];exact hi),ih _ _ hi,Nat.div_div_eq_div_mul,←Nat.pow_succ']
    rw [show (w-1-i).succ=w+1-1-i by omega]
   have:i=w:=by omega
   subst this
   rw [List.getElem?_append_right (by rw [At];exact Nat.le_refl _),At]
   simp
theorem QH(l:List Nat)(i:Nat)(h:i<8*l.length):(BK l)[i]? =some (l.getD (i/8) 0/2^(7-i%8)%2==1):=by
 induction l generalizing i with
 | nil=>simp at h
 | cons x l ih=>
   simp only [BK,List.flatMap_cons] at*
   by_cases hi:i<8
   ·rw [List.getElem?_append_left (by rw [At];exact hi),Jp 8 x i hi]
    have h1:i/8=0:=by omega
    have h2:i%8=i:=by omega
    simp [h1,h2]
   rw [List.getElem?_append_right (by rw [At];omega),At,ih (i-8) (by simp at h;omega)]
   have h1:i/8=(i-8)/8+1:=by omega
   have h2:(i-8)%8=i%8:=by omega
   rw [h1,h2,List.getD_cons_succ]
def nx(c:Nat→Nat):Nat→Nat
 | 0=>0
 | k+1=>2*nx c k+c k
def Fu(c:Nat→Nat):Nat→List (Nat×Nat)
 | 0=>[]
 | k+1=>Fu c k++(List.range (c k)).map fun j=>(k+1,2*nx c k+j)
def sm(c:Nat→Nat):Nat→Nat
 | 0=>0
 | k+1=>sm c k+c k
theorem E4(c:Nat→Nat):∀k,(Fu c k).length=sm c k
 | 0=>rfl
 | k+1=>by simp [Fu,sm,E4 c k]
def Vs(x:Nat×Nat):Nat:=x.2*2^(16-x.1)
def Xw(x:Nat×Nat):Nat:=(x.2+1)*2^(16-x.1)
inductive FI:Nat→List (Nat×Nat)→Nat→Prop
 | nil {a:Nat}:FI a [] a
 | cons {x:Nat×Nat} {l:List (Nat×Nat)} {b:Nat} (h:FI (Xw x) l b):FI (Vs x) (x::l) b
theorem FI.append{a b c:Nat}{l m:List (Nat×Nat)}(h:FI a l b)(k:FI b m c):FI a (l++m) c:=by
 induction h with
 | nil=>exact k
 | cons h ih=>exact .cons (ih k)
theorem Oq(k s:Nat):∀n a,FI ((s+a)*2^(16-(k+1))) ((List.range' a n).map fun j=>(k+1,s+j)) ((s+a+n)*2^(16-(k+1)))
 | 0,a=>by simpa using FI.nil
 | n+1,a=>by
   have h:=Oq k s n (a+1)
   simp only [List.range'_succ,List.map_cons]
   refine FI.cons (x:=(k+1,s+a)) ?_
   rw [show s+a+(n+1)=s+(a+1)+n by omega]
   exact h
theorem Kd(c:Nat→Nat):∀k,k≤16→FI 0 (Fu c k) (nx c k*2^(16-k))
 | 0,_=>by simpa [Fu,nx] using FI.nil
 | k+1,h=>by
   have h1:=Kd c k (by omega)
   have h2:=Oq k (2*nx c k) (c k) 0
   have e:nx c k*2^(16-k)=(2*nx c k+0)*2^(16-(k+1)):=by
    rw [show 16-k=(16-(k+1))+1 by omega,Nat.pow_succ,Nat.add_zero (2*_),Nat.mul_comm 2 (nx c k),Nat.mul_assoc (nx c k) 2,Nat.mul_comm 2]
   rw [e] at h1
   rw [Fu,nx,List.range_eq_range']
   exact h1.append h2
theorem FI.le{a b:Nat}{l:List (Nat×Nat)}(h:FI a l b):a≤b:=by
 induction h with
 | nil=>omega
 | @cons x l b h ih=>
   have:Vs x≤Xw x:=Nat.mul_le_mul_right _ (by omega)
   omega
theorem FI.mem{a b:Nat}{l:List (Nat×Nat)}(h:FI a l b):∀x∈l,a≤Vs x∧Xw x≤b:=by
 induction h with
 | nil=>intro x hx;cases hx
 | @cons y l b h ih=>
   intro x hx
   rcases List.mem_cons.1 hx with rfl|hx
   ·exact ⟨Nat.le_refl _,h.le⟩
   have h1:=ih x hx
   have:Vs y≤Xw y:=Nat.mul_le_mul_right _ (by omega)
   omega
theorem FI.pair{a b:Nat}{l:List (Nat×Nat)}(h:FI a l b):l.Pairwise fun x y=>Xw x≤Vs y:=by
 induction h with
 | nil=>exact List.Pairwise.nil
 | @cons x l b h ih=>exact List.Pairwise.cons (fun y hy=>(h.mem y hy).1) ih
theorem Js(c:Nat→Nat):∀k x,x∈Fu c k→1≤x.1∧x.1≤k
 | 0,x,h=>by cases h
 | k+1,x,h=>by
   rcases List.mem_append.1 h with h|h
   ·have:=Js c k x h;omega
   obtain ⟨j,_,rfl⟩:=List.mem_map.1 h
   exact ⟨by simp,by simp⟩
def Lm(c:Nat→Nat):Prop:=∀k,k<16→nx c (k+1)<2^(k+1)
theorem UY(c:Nat→Nat)(k:Nat):∀d,nx c k*2^d≤nx c (k+d)
 | 0=>by simp
 | d+1=>by
   have:=UY c k d
   rw [←Nat.add_assoc,nx,Nat.pow_succ,←Nat.mul_assoc];omega
theorem F8(c:Nat→Nat):Lm c↔nx c 16<65536:=by
 constructor
 ·intro h;exact h 15 (by omega)
 intro h k hk
 have h1:=UY c (k+1) (15-k)
 rw [show k+1+(15-k)=16 by omega] at h1
 have h2:nx c (k+1)*2^(15-k)<2^(k+1)*2^(15-k):=by
  rw [←Nat.pow_add,show k+1+(15-k)=16 by omega];exact Nat.lt_of_le_of_lt h1 h
 exact Nat.lt_of_mul_lt_mul_right h2
theorem Zq(c:Nat→Nat)(h:Lm c)(x:Nat×Nat)(hx:x∈Fu c 16):x.2+1<2^x.1∧1≤x.1∧x.1≤16:=by
 have h1:=Js c 16 x hx
 have h2:=((Kd c 16 (by omega)).mem x hx).2
 have h3:=(F8 c).1 h
 refine ⟨?_,h1.1,h1.2⟩
 have h4:(x.2+1)*2^(16-x.1)<2^x.1*2^(16-x.1):=by
  rw [←Nat.pow_add,show x.1+(16-x.1)=16 by omega]
  have:Xw x=(x.2+1)*2^(16-x.1):=rfl
  simp at h2;omega
 exact Nat.lt_of_mul_lt_mul_right h4
theorem PL(x y:Nat×Nat)(hx:x.1≤y.1)(hy:y.1≤16)(h:y.2/2^(y.1-x.1)=x.2):Vs x≤Vs y∧Vs y<Xw x:=by
 have hp:0<2^(y.1-x.1):=Nat.two_pow_pos _
 have hq:0<2^(16-y.1):=Nat.two_pow_pos _
 have e:2^(16-x.1)=2^(y.1-x.1)*2^(16-y.1):=by rw [←Nat.pow_add];congr 1;omega
 have h1:x.2*2^(y.1-x.1)≤y.2:=by rw [←h];exact Nat.div_mul_le_self _ _
 have h2:y.2<(x.2+1)*2^(y.1-x.1):=by rw [←h,Nat.mul_comm];exact Nat.lt_mul_div_succ _ hp
 unfold Vs Xw
 rw [e,←Nat.mul_assoc,←Nat.mul_assoc]
 exact ⟨Nat.mul_le_mul_right _ h1,Nat.mul_lt_mul_of_pos_right h2 hq⟩
theorem Rt(c:Nat→Nat)(i j:Nat)(x y:Nat×Nat)(hi:(Fu c 16)[i]? =some x)(hj:(Fu c 16)[j]? =some y)(hne:i≠j)(hl:x.1≤y.1):¬y.2/2^(y.1-x.1)=x.2:=by
 intro h
 have hp:=(Kd c 16 (by omega)).pair
 have hy:=Js c 16 y (List.mem_of_getElem? hj)
 obtain ⟨h1,h2⟩:=PL x y hl hy.2 h
 rw [List.pairwise_iff_getElem] at hp
 obtain ⟨hi1,hi2⟩:=List.getElem?_eq_some_iff.1 hi
 obtain ⟨hj1,hj2⟩:=List.getElem?_eq_some_iff.1 hj
 have hw:∀z:Nat×Nat,Vs z<Xw z:=fun z=>Nat.mul_lt_mul_of_pos_right (by omega) (Nat.two_pow_pos _)
 rcases Nat.lt_or_gt_of_ne hne with g|g
 ·have:=hp i j hi1 hj1 g
  rw [hi2,hj2] at this;omega
 have:=hp j i hj1 hi1 g
 rw [hi2,hj2] at this
 have:=hw y
 omega
def cc(C:List Int)(k:Nat):Nat:=(AK C k).toNat
def I7(C:List Int):Bool:=(List.range 16).all (fun k=>decide (0≤AK C k∧AK C k≤256))&&decide (sm (cc C) 16≤256)
theorem Dx(C:List Int):I7 C=true↔(∀k,k<16→0≤AK C k∧AK C k≤256)∧sm (cc C) 16≤256:=by
 simp [I7]
def OY(c:Nat→Nat):Bool:=(List.range 16).all fun k=>decide (nx c (k+1)<2^(k+1))
theorem F7(c:Nat→Nat):OY c=true↔Lm c:=by simp [OY,Lm]
def Ol(S:List Int):Bool:=S.all fun s=>decide (0≤s)&&decide (s<256)
def BA(C S:List Int):Int:=
 if I7 C=true∧sm (cc C) 16=S.length then if Ol S then if S.Nodup∧OY (cc C)=true then 0 else 4 else 1 else 4
theorem ET{C S:List Int}(h:BA C S=0):(∀k,k<16→0≤AK C k∧AK C k≤256)∧sm (cc C) 16=S.length∧S.length≤256∧(∀s∈S,0≤s∧s<256)∧S.Nodup∧Lm (cc C):=by
 unfold BA at h
 split at h
 ·rename_i h1
  split at h
  ·rename_i h2
   split at h
   ·rename_i h3
    obtain ⟨h4,h5⟩:=(Dx C).1 h1.1
    refine ⟨h4,h1.2,by omega,?_,h3.1,(F7 _).1 h3.2⟩
    intro s hs
    have:=List.all_eq_true.1 h2 s hs
    simpa using this
   cases h
  cases h
 cases h
theorem Xn{C S:List Int}(h1:I7 C=true)(h2:sm (cc C) 16=S.length)(h3:∀s∈S,0≤s∧s<256)(h4:S.Nodup)(h5:Lm (cc C)):BA C S=0:=by
 unfold BA
 rw [if_pos ⟨h1,h2⟩,if_pos,if_pos ⟨h4,(F7 _).2 h5⟩]
 rw [Ol,List.all_eq_true];intro s hs;simpa using h3 s hs
def Bu(C S:List Int):List (Int×Nat×Nat):=S.zip (Fu (cc C) 16)
def Rc(l:List (Int×Nat×Nat)):List Int:=l.flatMap fun x=>[x.1,(x.2.1:Int),(x.2.2:Int)]
theorem VR(l:List (Int×Nat×Nat))(x:Int×Nat×Nat):Rc (l++[x])=Rc l++[x.1,(x.2.1:Int),(x.2.2:Int)]:=by simp [Rc]
theorem Rd:∀(l:List (Int×Nat×Nat))(k:Nat)(x:Int×Nat×Nat),l[k]? =some x→((Rc l).drop (k*3)).take 3=[x.1,(x.2.1:Int),(x.2.2:Int)]
 | [],k,x,h=>by simp at h
 | y::l,0,x,h=>by
   obtain rfl:y=x:=by simpa using h
   simp [Rc]
 | y::l,k+1,x,h=>by
   have:=Rd l k x (by simpa using h)
   rw [show (k+1)*3=k*3+3 by omega]
   simp only [Rc,List.flatMap_cons] at*
   rw [List.drop_append,List.drop_of_length_le (by simp)]
   simpa using this
theorem Ve(S:List Int)(A:List (Nat×Nat))(x:Nat×Nat)(h:A.length<S.length):S.zip (A++[x])=S.zip A++[(AK S A.length,x)]:=by
 apply List.ext_getElem?
 intro i
 rcases Nat.lt_trichotomy i A.length with g|g|g
 ·rw [List.getElem?_append_left (by simp;omega)]
  simp only [List.zip,List.getElem?_zipWith]
  rw [List.getElem?_append_left g]
 ·subst g
  rw [List.getElem?_append_right (by simp;omega)]
  simp only [List.zip,List.getElem?_zipWith]
  rw [List.getElem?_append_right (by omega),Cs S _ h,Nat.sub_self,show (List.zipWith Prod.mk S A).length=A.length by simp;omega,Nat.sub_self]
  rfl
 rw [List.getElem?_eq_none (by simp;omega),List.getElem?_eq_none (by simp;omega)]
theorem NH(C S:List Int)(h:sm (cc C) 16=S.length):(Bu C S).length=S.length:=by
 simp [Bu,E4,h]
theorem Rb(C S:List Int)(h:sm (cc C) 16=S.length)(i:Nat)(hi:i<S.length):∃x,(Fu (cc C) 16)[i]? =some x∧(Bu C S)[i]? =some (AK S i,x):=by
 have hl:i<(Fu (cc C) 16).length:=by rw [E4];omega
 refine ⟨_,List.getElem?_eq_getElem hl,?_⟩
 simp only [Bu,List.zip,List.getElem?_zipWith,Cs S i hi,List.getElem?_eq_getElem hl]
theorem Jb(C S:List Int)(x:Int×Nat×Nat)(hx:x∈Bu C S):x.1∈S∧x.2∈Fu (cc C) 16:=List.of_mem_zip (a:=x.1) (b:=x.2) hx
def symW(L:List (Int×Nat×Nat))(s:Int):Option (Nat×Nat):=(L.reverse.find? fun x=>decide (x.1=s)).map (·.2)
def codW(L:List (Int×Nat×Nat))(p:Int×Int):Option Int:=(L.reverse.find? fun x=>decide (p=((x.2.1:Int),(x.2.2:Int)))).map (·.1)
theorem Sn(L:List (Int×Nat×Nat))(x:Int×Nat×Nat)(s:Int):symW (L++[x]) s=if s=x.1 then some x.2 else symW L s:=by
 unfold symW
 rw [List.reverse_append,List.reverse_singleton,List.singleton_append,List.find?_cons]
 by_cases h:s=x.1
 ·simp [h]
 have:¬x.1=s:=fun e=>h e.symm
 simp [h,this]
theorem R5(L:List (Int×Nat×Nat))(x:Int×Nat×Nat)(p:Int×Int):codW (L++[x]) p=if p=((x.2.1:Int),(x.2.2:Int)) then some x.1 else codW L p:=by
 unfold codW
 rw [List.reverse_append,List.reverse_singleton,List.singleton_append,List.find?_cons]
 by_cases h:p=((x.2.1:Int),(x.2.2:Int))
 ·simp [h]
 simp [h]
theorem Eo{L:List (Int×Nat×Nat)}{s:Int}{y:Nat×Nat}(h:symW L s=some y):(s,y)∈L:=by
 unfold symW at h
 cases hf:L.reverse.find? fun x=>decide (x.1=s) with
 | none=>rw [hf] at h;cases h
 | some x=>
   rw [hf] at h
   have h1:=List.mem_of_find?_eq_some hf
   have h2:=List.find?_some hf
   simp only [Option.map_some,Option.some.injEq] at h
   simp only [decide_eq_true_eq] at h2
   subst h;subst h2
   simpa using h1
theorem Sm{L:List (Int×Nat×Nat)}{s:Int}(h:symW L s=none):∀x∈L,x.1≠s:=by
 unfold symW at h
 rw [Option.map_eq_none_iff,List.find?_eq_none] at h
 intro x hx
 simpa using h x (by simpa using hx)
theorem Jw{L:List (Int×Nat×Nat)}{a b:Nat}{s:Int}(h:codW L ((a:Int),(b:Int))=some s):(s,a,b)∈L:=by
 unfold codW at h
 cases hf:L.reverse.find? fun x=>decide (((a:Int),(b:Int))=((x.2.1:Int),(x.2.2:Int))) with
 | none=>rw [hf] at h;cases h
 | some x=>
   rw [hf] at h
   have h1:=List.mem_of_find?_eq_some hf
   have h2:=List.find?_some hf
   simp only [Option.map_some,Option.some.injEq] at h
   simp only [decide_eq_true_eq,Prod.mk.injEq] at h2
   obtain ⟨s',a',b'⟩:=x
   simp only at h h2
   obtain ⟨h3,h4⟩:=h2
   have h5:a=a':=by omega
   have h6:b=b':=by omega
   subst h;subst h5;subst h6
   simpa using h1
theorem R4{L:List (Int×Nat×Nat)}{a b:Nat}(h:codW L ((a:Int),(b:Int))=none):∀x∈L,x.2≠(a,b):=by
 unfold codW at h
 rw [Option.map_eq_none_iff,List.find?_eq_none] at h
 intro x hx
 have:=h x (by simpa using hx)
 intro e
 rw [e] at this
 simp at this
structure Ci(L:List (Int×Nat×Nat)):Prop where
 long:∀x∈L,1≤x.2.1∧x.2.1≤16∧x.2.2+1<2^x.2.1
 sym:∀x∈L,∀y∈L,x.1=y.1→x=y
 pre:∀x∈L,∀y∈L,x.2.1≤y.2.1→y.2.2/2^(y.2.1-x.2.1)=x.2.2→x=y
 range:∀x∈L,0≤x.1∧x.1<256
theorem Bp{C S:List Int}(h:BA C S=0):Ci (Bu C S):=by
 obtain ⟨h1,h2,h3,h4,h5,h6⟩:=ET h
 have idx:∀x∈Bu C S,∃i,i<S.length∧x.1=AK S i∧(Fu (cc C) 16)[i]? =some x.2∧(Bu C S)[i]? =some x:=fun x hx=>by
  obtain ⟨i,hi,e⟩:=List.getElem_of_mem hx
  rw [NH C S h2] at hi
  obtain ⟨y,e1,e2⟩:=Rb C S h2 i hi
  have e3:(Bu C S)[i]? =some x:=by rw [List.getElem?_eq_getElem (by rw [NH C S h2];exact hi),e]
  rw [e2] at e3
  obtain rfl:(AK S i,y)=x:=by simpa using e3
  exact ⟨i,hi,rfl,e1,e2⟩
 refine ⟨fun x hx=>?_,fun x hx y hy e=>?_,fun x hx y hy hl hp=>?_,fun x hx=>h4 _ (Jb C S x hx).1⟩
 ·have:=Zq (cc C) h6 x.2 (Jb C S x hx).2
  exact ⟨this.2.1,this.2.2,this.1⟩
 ·obtain ⟨i,hi,ei,ci,wi⟩:=idx x hx
  obtain ⟨j,hj,ej,cj,wj⟩:=idx y hy
  have hij:i=j:=by
   rw [ei,ej] at e
   have gi:=Cs S i hi
   have gj:=Cs S j hj
   rw [e] at gi
   exact (List.getElem?_inj hi h5).1 (by rw [gi,gj])
  subst hij
  rw [wi] at wj
  simpa using wj
 obtain ⟨i,hi,ei,ci,wi⟩:=idx x hx
 obtain ⟨j,hj,ej,cj,wj⟩:=idx y hy
 by_cases hij:i=j
 ·subst hij;rw [wi] at wj;simpa using wj
 exact absurd hp (Rt (cc C) i j x.2 y.2 ci cj hij hl)
theorem Ci.symW{L:List (Int×Nat×Nat)}(h:Ci L){x:Int×Nat×Nat}(hx:x∈L):symW L x.1=some x.2:=by
 cases hs:Go.Proofs.YtohacgmhmbijmaaGreatDoor.symW L x.1 with
 | none=>exact absurd rfl (Sm hs x hx)
 | some y=>
   have:=h.sym _ (Eo hs) x hx rfl
   rw [←this]
theorem Ci.codW{L:List (Int×Nat×Nat)}(h:Ci L){x:Int×Nat×Nat}(hx:x∈L):codW L ((x.2.1:Int),(x.2.2:Int))=some x.1:=by
 cases hs:Go.Proofs.YtohacgmhmbijmaaGreatDoor.codW L ((x.2.1:Int),(x.2.2:Int)) with
 | none=>exact absurd rfl (R4 hs x hx)
 | some y=>
   have:=h.pre _ (Jw hs) x hx (Nat.le_refl _) (by simp)
   rw [←this]
end Go.Proofs.YtohacgmhmbijmaaGreatDoor
namespace Go.Proofs.YtohacgmhmbijmaaGreatDoor
attribute [local irreducible] Region.wanted
open Go.RowKit
set_option linter.unusedVariables false
set_option maxRecDepth 100000
set_option maxHeartbeats 8000000
def Cq{K:Type}(enc:K→Value)(x:K×Value×Nat):MapEntry:={key:=enc x.1,val:=x.2.1,born:=x.2.2}
def BH{K:Type}[DecidableEq K](k:K):List (K×Value×Nat)→Nat→Option (Nat×Value)
 | [],_=>none
 | x::l,i=>if k=x.1 then some (i,x.2.1) else BH k l (i+1)
structure Eu{K:Type}[DecidableEq K](P:Program)(kt:TypeId)(enc:K→Value):Prop where
 check:∀(w:World)(b:Bool)(k:K),(Instr.checkKey b 10000 kt (enc k)).run P w= .ok () w
 find:∀(w:World)(k:K)(l:List (K×Value×Nat)),(Instr.findKey kt (enc k) (l.map (Cq enc))).run P w= .ok (BH k l 0) w
 same:∀k,Instr.sameBits 10000 (enc k) (enc k)=true
def GX{K:Type}[DecidableEq K](enc:K→Value)(w:World)(b:Nat)(f:K→Option Value):Prop:=
 ∃(l:List (K×Value×Nat)) (clock:Nat),w.heap[b]? =some (.map (l.map (Cq enc)).toArray clock)∧∀k,(BH k l 0).map (·.2)=f k
section
variable{K:Type}[DecidableEq K]{P:Program}{enc:K→Value}
theorem G9(k:K)(l:List (K×Value×Nat)):∀i,BH k l i=(BH k l 0).map fun x=>(x.1+i,x.2):=by
 induction l with
 | nil=>intro i;rfl
 | cons x l ih=>
   intro i
   simp only [BH]
   split
   ·simp
   rw [ih (i+1),ih (0+1)]
   cases BH k l 0 with
   | none=>rfl
   | some y=>simp;omega
theorem K8(k:K)(l m:List (K×Value×Nat)):∀i,BH k (l++m) i=(BH k l i).or (BH k m (i+l.length)):=by
 induction l with
 | nil=>intro i;simp [BH]
 | cons x l ih=>
   intro i
   simp only [List.cons_append,BH]
   split
   ·simp
   rw [ih,List.length_cons,show i+1+l.length=i+(l.length+1) by omega]
theorem K9(k j:K)(v:Value):∀(l:List (K×Value×Nat))(n i:Nat)(u:Value),BH k l n=some (n+i,u)→
 (BH j (l.modify i fun e=>(k,v,e.2.2)) n).map (·.2)=if j=k then some v else (BH j l n).map (·.2):=by
 intro l
 induction l with
 | nil=>intro n i u h;simp [BH] at h
 | cons x l ih=>
   intro n i u h
   simp only [BH] at h
   split at h
   ·rename_i hk
    simp only [Option.some.injEq,Prod.mk.injEq] at h
    have hi:i=0:=by omega
    subst hi
    simp only [List.modify_zero_cons,BH]
    by_cases hj:j=k
    ·simp [hj]
    have:¬j=x.1:=fun e=>hj (e.trans hk.symm)
    simp [hj,this]
   rename_i hk
   cases i with
   | zero=>
     exfalso
     rw [G9] at h
     cases hf:BH k l 0 with
     | none=>simp [hf] at h
     | some y=>simp [hf] at h;omega
   | succ i=>
     simp only [List.modify_succ_cons,BH]
     have h':BH k l (n+1)=some (n+1+i,u):=by rw [h];congr 2;omega
     split
     ·rename_i hj
      have:¬j=k:=fun e=>hk (e▸ hj)
      simp [this]
     exact ih (n+1) i u h'
theorem GX.new(w:World):GX enc (w.alloc (.map #[] 0)) w.heap.size (fun _=>none):=
 ⟨[],0,heap_alloc_new w _,fun _=>rfl⟩
theorem GX.lt{w:World}{b:Nat}{f:K→Option Value}(h:GX enc w b f):b<w.heap.size:=by
 obtain ⟨l,c,h,_⟩:=h
 exact (Array.getElem?_eq_some_iff.1 h).1
theorem GX.of_heap{w w':World}{b:Nat}{f:K→Option Value}(h:GX enc w b f)(hh:w'.heap[b]? =w.heap[b]?):GX enc w' b f:=by
 obtain ⟨l,c,h,hf⟩:=h
 exact ⟨l,c,by rw [hh];exact h,hf⟩
theorem Ig{w:World}{b:Nat}{es:Array MapEntry}{c:Nat}(h:w.heap[b]? =some (.map es c)):(getObj b:Sem Obj).run P w= .ok (.map es c) w:=by
 simp [getObj,Sem.run,h]
theorem GX.lookup{w:World}{b:Nat}{f:K→Option Value}{mt kt et:TypeId}(h:GX enc w b f)(hm:P.underlying mt=some (.map kt et))(law:Eu P kt enc)(k:K)(ok:Bool)
 {z:Value} (hz:∀w,(zeroValue et).run P w= .ok z w):
 (Instr.lookup mt (.map (some b)) (enc k) ok).run P w= .ok (if ok then .tuple #[(f k).getD z, .bool (f k).isSome] else (f k).getD z) w:=by
 obtain ⟨l,c,hb,hf⟩:=h
 have hfk:=hf k
 simp only [Instr.lookup,Sem.run_bind,run_underlying hm,Result.andThen_ok,Ig hb,Sem.run_pure,law.check,law.find]
 cases hfi:BH k l 0 with
 | none=>
   rw [hfi] at hfk
   simp only [Option.map_none] at hfk
   rw [←hfk]
   simp [hz]
 | some y=>
   rw [hfi] at hfk
   simp only [Option.map_some] at hfk
   rw [←hfk]
   simp
theorem GX.update{w:World}{b:Nat}{f:K→Option Value}{mt kt et:TypeId}(h:GX enc w b f)(hm:P.underlying mt=some (.map kt et))(law:Eu P kt enc)(k:K)(v:Value):
 ∃w',(Instr.mapUpdate mt (.map (some b)) (enc k) v).run P w= .ok () w'∧GX enc w' b (fun j=>if j=k then some v else f j)∧
  (∀W,W.heap.size≤b→Al W w→Al W w')∧∀i,i≠b→w'.heap[i]? =w.heap[i]? :=by
 obtain ⟨l,c,hb,hf⟩:=h
 have hlt:b<w.heap.size:=(Array.getElem?_eq_some_iff.1 hb).1
 have hset:∀o:Obj,(setObj b o).run P w= .ok () {w with heap:=w.heap.setIfInBounds b o}:=by
  intro o
  simp [setObj,Sem.run,hb]
 have hext:∀(o:Obj) W,W.heap.size≤b→Al W w→Al W {w with heap:=w.heap.setIfInBounds b o}:=fun o W hW hE=>
  Below.trans hE ⟨rfl,rfl,rfl,by simp,fun i hi=>by simp only [Array.getElem?_setIfInBounds];rw [if_neg (by omega)]⟩
 have hoth:∀(o:Obj) i,i≠b→({w with heap:=w.heap.setIfInBounds b o}:World).heap[i]? =w.heap[i]? :=fun o i hi=>by
  simp only [Array.getElem?_setIfInBounds];rw [if_neg (fun e=>hi e.symm)]
 have hnew:∀(o:Obj),({w with heap:=w.heap.setIfInBounds b o}:World).heap[b]? =some o:=fun o=>by
  simp [hlt]
 cases hfi:BH k l 0 with
 | none=>
   refine ⟨{w with heap:=w.heap.setIfInBounds b (.map ((l++[(k,v,c)]).map (Cq enc)).toArray (c+1))},?_,⟨l++[(k,v,c)],c+1,hnew _,fun j=>?_⟩,hext _,hoth _⟩
   ·simp only [Instr.mapUpdate,Sem.run_bind,run_underlying hm,Result.andThen_ok,Ig hb,law.check,law.find,hfi]
    rw [hset]
    congr 4
    simp [Cq]
   show _=if j=k then some v else f j
   rw [K8,←hf j]
   by_cases hj:j=k
   ·subst hj;simp [hfi,BH]
   cases BH j l 0<;>simp [BH,hj]
 | some y=>
   obtain ⟨i,u⟩:=y
   have hmod:=fun j=>K9 k j v l 0 i u (by rw [hfi];simp)
   have hik:∃e,l[i]? =some e∧e.1=k:=by
    have:∀(l:List (K×Value×Nat)) n i u,BH k l n=some (n+i,u)→∃e,l[i]? =some e∧e.1=k:=by
     intro l
     induction l with
     | nil=>intro n i u h;simp [BH] at h
     | cons x l ih=>
       intro n i u h
       simp only [BH] at h
       split at h
       ·rename_i hk
        simp only [Option.some.injEq,Prod.mk.injEq] at h
        have hi:i=0:=by omega
        subst hi
        exact ⟨x,rfl,hk.symm⟩
       cases i with
       | zero=>
         exfalso
         rw [G9] at h
         cases hf:BH k l 0 with
         | none=>simp [hf] at h
         | some y=>simp [hf] at h;omega
       | succ i=>exact ih (n+1) i u (by rw [h];congr 2;omega)
    exact this l 0 i u (by rw [hfi];simp)
   obtain ⟨e,he,hek⟩:=hik
   refine ⟨{w with heap:=w.heap.setIfInBounds b (.map ((l.modify i fun e=>(k,v,e.2.2)).map (Cq enc)).toArray c)},?_,⟨l.modify i fun e=>(k,v,e.2.2),c,hnew _,fun j=>?_⟩,hext _,hoth _⟩
   ·simp only [Instr.mapUpdate,Sem.run_bind,run_underlying hm,Result.andThen_ok,Ig hb,law.check,law.find,hfi]
    have hold:(((l.map (Cq enc)).toArray[i]?).map (·.key)).getD (enc k)=enc k:=by simp [he,Cq,hek]
    rw [hold]
    simp only [Instr.keyThatStays,law.same,if_true,Sem.run_pure,Result.andThen_ok]
    rw [hset]
    congr 4
    apply Array.ext_getElem?
    intro j
    simp only [Array.getElem?_modify,List.getElem?_toArray,List.getElem?_map,List.getElem?_modify]
    by_cases hij:i=j
    ·subst hij;simp [he,Cq]
    simp [hij]
   rw [hmod j,hf j]
end
def ik(n:Int):Value:= .int .i64 n
theorem CK{P:Program}{kt:TypeId}(h:P.underlying kt=some (.int .i64)):Eu P kt ik where
 check w b k:=by
  unfold ik
  rw [show (10000:Nat)=9999+1 from rfl,Instr.checkKey]
  simp [run_underlying h]
 find w k l:=by
  have key:∀(l:List (Int×Value×Nat)) i,Instr.findNow (.int .i64) (ik k) (l.map (Cq ik)) i=some (BH k l i):=by
   intro l
   induction l with
   | nil=>intro i;rfl
   | cons x l ih=>
     intro i
     simp only [List.map_cons,Instr.findNow,BH,Cq,ik,Instr.sameNow,if_true]
     by_cases hx:k=x.1
     ·simp [hx]
     have:(k==x.1)=false:=by simpa using hx
     simp only [this,hx,if_false]
     exact ih (i+1)
  simp [Instr.findKey,run_underlying h,key]
 same k:=by unfold ik;rw [Instr.sameBits.eq_2];simp
section
variable{K:Type}[DecidableEq K]{P:Program}{enc:K→Value}
end
inductive Ah where
 | ints (l:List Int)
 | val (v:Value)
def Ah.cells:Ah→List Value
 | .ints l=>l.map (Value.int .i64)
 | .val v=>[v]
def AI:List Ah→List Value
 | []=>[]
 | p::ps=>p.cells++AI ps
def prt(g:Nat)(ps:List Ah):Au:=blk g (AI ps)
inductive TM:List Ah→Nat→List Int→Nat→Prop
 | head {l:List Int} {ps:List Ah} {off n:Nat} (hn:Ap l n) (h:off<n):TM (.ints l::ps) off l off
 | skipI {l:List Int} {ps:List Ah} {off n o2 r:Nat} {l':List Int} (hn:Ap l n) (h:n≤off) (ho:off-n=o2) (t:TM ps o2 l' r):TM (.ints l::ps) off l' r
 | skipV {v:Value} {ps:List Ah} {off r:Nat} {l':List Int} (t:TM ps off l' r):TM (.val v::ps) (off+1) l' r
theorem TM.get{ps:List Ah}{off r:Nat}{l:List Int}(h:TM ps off l r):(AI ps)[off]? =some (.int .i64 (AK l r)):=by
 induction h with
 | @head l ps off n hn h=>
   have hl:=hn.out
   rw [AI,Ah.cells,List.getElem?_append_left (by simp;omega),List.getElem?_map,Cs l off (by omega)];rfl
 | @skipI l ps off n o2 r l' hn h ho t ih=>
   have hl:=hn.out
   rw [AI,Ah.cells,List.getElem?_append_right (by simp;omega),List.length_map,hl,ho,ih]
 | @skipV v ps off r l' t ih=>
   rw [AI,Ah.cells,List.singleton_append,List.getElem?_cons_succ,ih]
inductive Jd:List Ah→Nat→Value→Prop
 | head {v:Value} {ps:List Ah}:Jd (.val v::ps) 0 v
 | skipI {l:List Int} {ps:List Ah} {off n o2:Nat} {v:Value} (hn:Ap l n) (h:n≤off) (ho:off-n=o2) (t:Jd ps o2 v):Jd (.ints l::ps) off v
 | skipV {u v:Value} {ps:List Ah} {off:Nat} (t:Jd ps off v):Jd (.val u::ps) (off+1) v
theorem Jd.get{ps:List Ah}{off:Nat}{v:Value}(h:Jd ps off v):(AI ps)[off]? =some v:=by
 induction h with
 | head=>rfl
 | @skipI l ps off n o2 v hn h ho t ih=>
   have hl:=hn.out
   rw [AI,Ah.cells,List.getElem?_append_right (by simp;omega),List.length_map,hl,ho,ih]
 | @skipV u v ps off t ih=>
   rw [AI,Ah.cells,List.singleton_append,List.getElem?_cons_succ,ih]
inductive CH:List Ah→Nat→List Ah→Prop
 | nil {ps:List Ah}:CH ps 0 []
 | ints {l:List Int} {ps ss:List Ah} {n m m2:Nat} (hn:Ap l n) (h:n≤m) (hm:m-n=m2) (t:CH ps m2 ss):CH (.ints l::ps) m (.ints l::ss)
 | val {v:Value} {ps ss:List Ah} {m:Nat} (t:CH ps m ss):CH (.val v::ps) (m+1) (.val v::ss)
theorem CH.take{ps ss:List Ah}{m:Nat}(h:CH ps m ss):(AI ps).take m=AI ss∧(AI ss).length=m:=by
 induction h with
 | nil=>exact ⟨by simp [AI],rfl⟩
 | @ints l ps ss n m m2 hn h hm t ih=>
   have hl:=hn.out
   refine ⟨?_,by simp only [AI,Ah.cells,List.length_append,List.length_map,ih.2];omega⟩
   rw [AI,AI,Ah.cells,List.take_append,List.length_map,hl,hm,ih.1,List.take_of_length_le (by simp;omega)]
 | @val v ps ss m t ih=>
   exact ⟨by simp only [AI,Ah.cells,List.singleton_append,List.take_succ_cons,ih.1],by simp only [AI,Ah.cells,List.singleton_append,List.length_cons,ih.2]⟩
inductive GK:List Ah→Nat→Nat→List Ah→Prop
 | head {ps ss:List Ah} {m:Nat} (h:CH ps m ss):GK ps 0 m ss
 | skipI {l:List Int} {ps ss:List Ah} {off n o2 m:Nat} (hn:Ap l n) (h:n≤off) (ho:off-n=o2) (t:GK ps o2 m ss):GK (.ints l::ps) off m ss
 | skipV {u:Value} {ps ss:List Ah} {off m:Nat} (t:GK ps off m ss):GK (.val u::ps) (off+1) m ss
theorem GK.get{ps ss:List Ah}{off m:Nat}(h:GK ps off m ss):((AI ps).drop off).take m=AI ss∧(AI ss).length=m:=by
 induction h with
 | head h=>rw [List.drop_zero];exact h.take
 | @skipI l ps ss off n o2 m hn h ho t ih=>
   have hl:=hn.out
   rw [AI,Ah.cells,List.drop_append,List.length_map,hl,ho,List.drop_of_length_le (by simp;omega),List.nil_append];exact ih
 | @skipV u ps ss off m t ih=>
   rw [AI,Ah.cells,List.singleton_append,List.drop_succ_cons];exact ih
inductive QM:List Ah→Nat→Nat→List Int→Prop
 | head {l:List Int} {ps:List Ah} {n:Nat} (hn:Ap l n):QM (.ints l::ps) 0 n l
 | skipI {l l':List Int} {ps:List Ah} {off n o2 m:Nat} (hn:Ap l n) (h:n≤off) (ho:off-n=o2) (t:QM ps o2 m l'):QM (.ints l::ps) off m l'
 | skipV {u:Value} {l':List Int} {ps:List Ah} {off m:Nat} (t:QM ps off m l'):QM (.val u::ps) (off+1) m l'
theorem QM.get{ps:List Ah}{off m:Nat}{l:List Int}(h:QM ps off m l):((AI ps).drop off).take m=l.map (Value.int .i64)∧l.length=m:=by
 induction h with
 | @head l ps n hn=>
   have hl:=hn.out
   rw [List.drop_zero,AI,Ah.cells,List.take_append,List.length_map,hl,Nat.sub_self,List.take_of_length_le (by simp;omega)]
   exact ⟨by simp,rfl⟩
 | @skipI l l' ps off n o2 m hn h ho t ih=>
   have hl:=hn.out
   rw [AI,Ah.cells,List.drop_append,List.length_map,hl,ho,List.drop_of_length_le (by simp;omega),List.nil_append];exact ih
 | @skipV u l' ps off m t ih=>
   rw [AI,Ah.cells,List.singleton_append,List.drop_succ_cons];exact ih
section
variable{P:Program}{W w:World}{rs rs':List Au}{Q:Exit→Act→World→Prop}{K:Act→World→Prop}{o:Oper}{a:Act}
theorem S0(hS:St W w rs)(ty:TypeId)(x:Operand)(ho:o.op= .load ty x)(g off:Nat)(hx:a.eval x= .pointer (some ⟨g,off,none⟩))(h1:K4 P ty)(ps:List Ah)(hp:AT (prt g ps) rs rs')
 (l:List Int) (r:Nat) (hi:TM ps off l r) (h:K (a.put o.dst (.int .i64 (AK l r))) w):o.wp P a w K Q:=
 AY hS ty x ho g off hx h1 _ hp _ hi.get h
theorem Ep(hS:St W w rs)(ty:TypeId)(x:Operand)(ho:o.op= .load ty x)(g off:Nat)(hx:a.eval x= .pointer (some ⟨g,off,none⟩))(h1:K4 P ty)(ps:List Ah)(hp:AT (prt g ps) rs rs')
 (v:Value) (hi:Jd ps off v) (h:K (a.put o.dst v) w):o.wp P a w K Q:=
 AY hS ty x ho g off hx h1 _ hp _ hi.get h
theorem Ic{g off m:Nat}{ps:List Ah}{cs:List Value}(hS:St W w rs)(hp:AT (prt g ps) rs rs')(h:((AI ps).drop off).take m=cs):w.rangeAt g off cs:=fun j v hv=>by
 rw [←h,List.getElem?_take] at hv
 split at hv
 ·rw [List.getElem?_drop] at hv
  rw [(St.blk hS hp).1.cell];simpa using hv
 cases hv
theorem L8(hS:St W w rs)(ty:TypeId)(x:Operand)(ho:o.op= .load ty x)(g off:Nat)(hx:a.eval x= .pointer (some ⟨g,off,none⟩))(m:Nat)(h1:EW P ty m)(ps:List Ah)(hp:AT (prt g ps) rs rs')
 (l:List Int) (hi:QM ps off m l) (h:K (a.put o.dst (.agg (iv l))) w):o.wp P a w K Q:=
 EH ty x ho g off hx m h1 (l.map (Value.int .i64)) (by simpa using hi.get.2) (Ic hS hp hi.get.1) h
theorem C8(hS:St W w rs)(ty:TypeId)(x:Operand)(ho:o.op= .load ty x)(g off:Nat)(hx:a.eval x= .pointer (some ⟨g,off,none⟩))(m:Nat)(h1:EW P ty m)(ps:List Ah)(hp:AT (prt g ps) rs rs')
 (ss:List Ah) (hi:GK ps off m ss) (h:K (a.put o.dst (.agg (AI ss).toArray)) w):o.wp P a w K Q:=
 EH ty x ho g off hx m h1 (AI ss) hi.get.2 (Ic hS hp hi.get.1) h
theorem H4(hS:St W w rs)(ty:TypeId)(x:Operand)(ho:o.op= .box ty x)(ps:List Ah)(hx:a.eval x= .agg (AI ps).toArray)
 (h:∀g w',St W w' (prt g ps::rs)→K (a.put o.dst (.pointer (some ⟨g,0,none⟩))) w'):o.wp P a w K Q:=
 CP hS ty x ho (AI ps) hx h
end
inductive Jg(z:Int):List Ah→Nat→List Ah→Prop
 | head {l:List Int} {ps:List Ah} {off n:Nat} (hn:Ap l n) (h:off<n):Jg z (.ints l::ps) off (.ints (l.set off z)::ps)
 | skipI {l:List Int} {ps ps':List Ah} {off n o2:Nat} (hn:Ap l n) (h:n≤off) (ho:off-n=o2) (t:Jg z ps o2 ps'):Jg z (.ints l::ps) off (.ints l::ps')
 | skipV {v:Value} {ps ps':List Ah} {off:Nat} (t:Jg z ps off ps'):Jg z (.val v::ps) (off+1) (.val v::ps')
theorem Jg.eq{z:Int}{ps ps':List Ah}{off:Nat}(h:Jg z ps off ps'):off<(AI ps).length∧AI ps'=(AI ps).set off (.int .i64 z):=by
 induction h with
 | @head l ps off n hn h=>
   have hl:=hn.out
   refine ⟨by simp [AI,Ah.cells];omega,?_⟩
   rw [AI,AI,Ah.cells,Ah.cells,List.set_append_left _ _ (by simp;omega),List.map_set]
 | @skipI l ps ps' off n o2 hn h ho t ih=>
   have hl:=hn.out
   refine ⟨by simp [AI,Ah.cells];omega,?_⟩
   rw [AI,AI,Ah.cells,List.set_append_right _ _ (by simp;omega),List.length_map,hl,ho,ih.2]
 | @skipV v ps ps' off t ih=>
   refine ⟨by simp [AI,Ah.cells];omega,?_⟩
   rw [AI,AI,Ah.cells,List.singleton_append,List.singleton_append,List.set_cons_succ,ih.2]
inductive Gy(z:Value):List Ah→Nat→List Ah→Prop
 | head {v:Value} {ps:List Ah}:Gy z (.val v::ps) 0 (.val z::ps)
 | skipI {l:List Int} {ps ps':List Ah} {off n o2:Nat} (hn:Ap l n) (h:n≤off) (ho:off-n=o2) (t:Gy z ps o2 ps'):Gy z (.ints l::ps) off (.ints l::ps')
 | skipV {v:Value} {ps ps':List Ah} {off:Nat} (t:Gy z ps off ps'):Gy z (.val v::ps) (off+1) (.val v::ps')
theorem Gy.eq{z:Value}{ps ps':List Ah}{off:Nat}(h:Gy z ps off ps'):off<(AI ps).length∧AI ps'=(AI ps).set off z:=by
 induction h with
 | head=>exact ⟨by simp [AI,Ah.cells],rfl⟩
 | @skipI l ps ps' off n o2 hn h ho t ih=>
   have hl:=hn.out
   refine ⟨by simp [AI,Ah.cells];omega,?_⟩
   rw [AI,AI,Ah.cells,List.set_append_right _ _ (by simp;omega),List.length_map,hl,ho,ih.2]
 | @skipV v ps ps' off t ih=>
   refine ⟨by simp [AI,Ah.cells];omega,?_⟩
   rw [AI,AI,Ah.cells,List.singleton_append,List.singleton_append,List.set_cons_succ,ih.2]
theorem D3.of{v:Value}:∀{l:List Value} {i:Nat},i<l.length→D3 v i l (l.set i v)
 | [],i,h=>by simp at h
 | x::l,0,_=> .head
 | x::l,i+1,h=> .tail (D3.of (by simpa using h))
section
variable{P:Program}{W w:World}{rs rs':List Au}{Q:Exit→Act→World→Prop}{K:Act→World→Prop}{o:Oper}{a:Act}
theorem QL(hS:St W w rs)(ty:TypeId)(x y:Operand)(ho:o.op= .store ty x y)(g off:Nat)(hx:a.eval x= .pointer (some ⟨g,off,none⟩))(h1:K4 P ty)(ps ps':List Ah)(hp:AT (prt g ps) rs rs')
 (z:Int) (hy:a.eval y= .int .i64 z) (hi:Jg z ps off ps') (hd:o.dst=none) (h:∀w',St W w' (prt g ps'::rs')→K a w'):o.wp P a w K Q:=by
 obtain ⟨h2,h3⟩:=hi.eq
 refine Bl hS ty x y ho g off hx h1 (AI ps) (AI ps') hp (.int .i64 z) (.int hy) rfl ?_ hd h
 rw [h3];exact D3.of h2
theorem Ks(hS:St W w rs)(ty:TypeId)(x y:Operand)(ho:o.op= .store ty x y)(g off:Nat)(hx:a.eval x= .pointer (some ⟨g,off,none⟩))(h1:K4 P ty)(ps ps':List Ah)(hp:AT (prt g ps) rs rs')
 (z:Value) (hy:DI (a.eval y) z) (hz:z.oneCell'=true) (hi:Gy z ps off ps') (hd:o.dst=none) (h:∀w',St W w' (prt g ps'::rs')→K a w'):o.wp P a w K Q:=by
 obtain ⟨h2,h3⟩:=hi.eq
 refine Bl hS ty x y ho g off hx h1 (AI ps) (AI ps') hp z hy hz ?_ hd h
 rw [h3];exact D3.of h2
def Mf:Ah→Bool
 | .ints _=>true
 | .val v=>v.oneCell'
theorem F6:∀{ps:List Ah},ps.all Mf=true→(AI ps).all (·.oneCell')=true
 | [],_=>rfl
 | .ints l::ps,h=>by
   simp only [List.all_cons,Bool.and_eq_true] at h
   simp only [AI,Ah.cells,List.all_append,Bool.and_eq_true]
   refine ⟨?_,F6 h.2⟩
   rw [List.all_eq_true];intro u hu;obtain ⟨x,_,rfl⟩:=List.mem_map.1 hu;rfl
 | .val v::ps,h=>by
   simp only [List.all_cons,Bool.and_eq_true] at h
   simp only [AI,Ah.cells,List.all_append,Bool.and_eq_true]
   exact ⟨by simpa [Mf] using h.1,F6 h.2⟩
theorem FE(hS:St W w rs)(ty:TypeId)(x y:Operand)(ho:o.op= .store ty x y)(g:Nat)(hx:a.eval x= .pointer (some ⟨g,0,none⟩))(m:Nat)(h1:EW P ty m)(ps ps':List Ah)(hp:AT (prt g ps) rs rs')
 (hy:a.eval y= .agg (AI ps').toArray) (hn:CH ps m ps) (hn':CH ps' m ps') (hv:ps'.all Mf=true) (hd:o.dst=none) (h:∀w',St W w' (prt g ps'::rs')→K a w'):o.wp P a w K Q:=
 CV hS ty x y ho g hx m h1 (AI ps) (AI ps') hp hy hn.take.2 hn'.take.2 (F6 hv) hd h
theorem GF(hS:St W w rs)(ty:TypeId)(ho:o.op= .alloc ty)(ps:List Ah)(hz:∀w,(zeroValue ty).run P w= .ok (.agg (AI ps).toArray) w)
 (h:∀g w',St W w' (prt g ps::rs)→K (a.put o.dst (.pointer (some ⟨g,0,none⟩))) w'):o.wp P a w K Q:=
 B3 hS ty ho _ (AI ps) hz rfl h
end
end Go.Proofs.YtohacgmhmbijmaaGreatDoor
