/- What the laws FrameAlone FrameGray FrameNear FrameFlat TopScale TopMirror need, part 4. -/
import Derived.Test.YtohacgmhmbijmaaGreatDoorBaseNZ1
import Derived.Test.YtohacgmhmbijmaaGreatDoorBaseNZ2
import Derived.Test.YtohacgmhmbijmaaGreatDoorBaseNZ3
import Derived.ProofKit
import Derived.OpenShut
import Derived.ChangeOld
import Derived.Deep.Slices
namespace Go.Proofs.YtohacgmhmbijmaaGreatDoor
attribute [local irreducible] Region.wanted
open Go.RowKit
set_option linter.unusedVariables false
set_option maxRecDepth 100000
set_option maxHeartbeats 8000000
theorem Un(a b A B:Int)(ha: -A≤a∧a≤A)(hb: -B≤b∧b≤B): -(A*B)≤a*b∧a*b≤A*B:=by
 have hA:0≤A:=by omega
 have hB:0≤B:=by omega
 have h1:(a*b).natAbs≤(A*B).natAbs:=by
  rw [Int.natAbs_mul,Int.natAbs_mul];exact Nat.mul_le_mul (by omega) (by omega)
 have h2:0≤A*B:=Int.mul_nonneg hA hB
 omega
def CX(f:Nat→Int):Nat→Int
 | 0=>0
 | n+1=>CX f n+f n
theorem fS(f:Nat→Int)(B:Int)(n:Nat)(h:∀i,i<n→ -B≤f i∧f i≤B): -(n*B)≤CX f n∧CX f n≤n*B:=by
 induction n with
 | zero=>simp [CX]
 | succ n ih=>
   have h1:=ih fun i hi=>h i (by omega)
   have h2:=h n (by omega)
   have e:((n+1:Nat):Int)*B=n*B+B:=by push_cast;rw [Int.add_mul,Int.one_mul]
   rw [e];simp only [CX];omega
theorem BE{f g:Nat→Int}{n:Nat}(h:∀i,i<n→f i=g i):CX f n=CX g n:=by
 induction n with
 | zero=>rfl
 | succ n ih=>simp only [CX];rw [ih fun i hi=>h i (by omega),h n (by omega)]
structure bf(K:FuncId)(cf:Int→Int→Int):Prop where
 call:∀(args:Array Value)(w:World),(callFunc K args).run Tryz.prog w= .ok (.enter K args) w
 run:∀(i k:Nat)(w:World),i<8→k<8→Calls Tryz.prog K #[.int .i64 i, .int .i64 k] w fun e w'=>e= .returned (.int .i64 (cf i k))∧Ah w w'
 bd:∀i k:Int,-4096≤cf i k∧cf i k≤4096
def YK(b:List Int)(cf:Int→Int→Int)(p k:Nat):Int:=AF b (8*(p%8)+k)*cf (p/8:Nat) k
def jN(b:List Int)(cf:Int→Int→Int)(p:Nat):Int:=CX (YK b cf p) 8
def Nf(b:List Int)(cf:Int→Int→Int):List Int:=aW 64 (jN b cf)
def bV(b:List Int)(cf:Int→Int→Int)(r i k p:Nat):Int:=if p%8<r∨p%8=r∧p/8<i then jN b cf p else if p%8=r∧p/8=i then CX (YK b cf p) k else 0
theorem OK(w0:World)(b:List Int)(K:FuncId)(cf:Int→Int→Int)(hK:bf K cf)(hb:Ae b 64)(hB:∀i,-2000000000≤AF b i∧AF b i≤2000000000):
 Calls Tryz.prog 116 #[.agg (iv b), .func (.func K) #[] #[]] w0 fun e w=>e= .returned (.agg (iv (Nf b cf)))∧Ah w0 w:=by
 have hS:=St.start w0
 have HK:=AD hK
 have HB:=AD hB
 clear hK hB
 go_enter Tryz.func116,Tryz.ntmps116
 repeat' (first
  | refine X1 ?_|refine L7 2 ?_;clear hS;intro g2 w hS|refine Kk 4 ?_;clear hS;intro g4 w hS|refine AG ?_;go_step|fail)
 go_loopg [8] 8 (fun gk kv w=>∃(r:Nat) (o:List Int),gk+r=8∧kv= .int .i64 r∧(∀p,p<64→AF o p=bV b cf r 0 0 p)∧St w0 w [arr g4 64 o,arr g2 64 b])
 case atStart=>exact ⟨0,_,rfl,rfl,fun p hp=>by rw [EJ];unfold bV;rw [if_neg (by omega)];split<;>rfl,hS.sub AV⟩
 case round=>
  clear hS
  obtain ⟨r,o,hr,rfl,ho,hS⟩:=hrel
  have HO:=AD ho
  clear ho
  by_cases hlt:r<8
  ·obtain ⟨gk1,hgk1⟩:∃x,x=gk:=⟨_,rfl⟩
   subst hgk1
   repeat' (first
    | refine X0 ?_|refine X2 ?_|refine AG ?_;go_step|fail)
   go_loopg [11] 8 (fun gk kv w=>∃(i:Nat) (o:List Int),gk+i=8∧kv= .int .i64 i∧(∀p,p<64→AF o p=bV b cf r i 0 p)∧St w0 w [arr g4 64 o,arr g2 64 b])
   case atStart=>exact ⟨0,o,rfl,rfl,HO.out,hS.sub AV⟩
   case round=>
    clear hS HO
    obtain ⟨i,o,hi,rfl,ho,hS⟩:=hrel
    have HO:=AD ho
    clear ho
    by_cases hlt2:i<8
    ·obtain ⟨gk2,hgk2⟩:∃x,x=gk:=⟨_,rfl⟩
     subst hgk2
     repeat' (first
      | refine X0 ?_|refine X2 ?_|refine AG ?_;go_step|fail)
     go_loopg [14] 8 (fun gk kv w=>∃(k:Nat) (o:List Int),gk+k=8∧kv= .int .i64 k∧(∀p,p<64→AF o p=bV b cf r i k p)∧St w0 w [arr g4 64 o,arr g2 64 b])
     case atStart=>exact ⟨0,o,rfl,rfl,HO.out,hS.sub AV⟩
     case round=>
      clear hS HO
      obtain ⟨k,o,hk,rfl,ho,hS⟩:=hrel
      have HO:=AD ho
      have hop:=ho (8*i+r) (by omega)
      clear ho
      by_cases hlt3:k<8
      ·obtain ⟨cv,hcv⟩:∃cv,cf (i:Nat) (k:Nat)=cv:=⟨_,rfl⟩
       have hc:=HK.out.bd (i:Nat) (k:Nat)
       rw [hcv] at hc
       have hbb:=HB.out (8*r+k)
       obtain ⟨m0,m1⟩:=Un (AF b (8*r+k)) cv 2000000000 4096 (by omega) (by omega)
       have hop2:AF o (8*i+r)=CX (YK b cf (8*i+r)) k:=by
        rw [hop];unfold bV;rw [if_neg (by omega),if_pos (by omega)]
       have hsb: -(k*8192000000000)≤CX (YK b cf (8*i+r)) k∧CX (YK b cf (8*i+r)) k≤k*8192000000000:=fS _ _ _ fun j hj=>by
        have h1:=HK.out.bd (((8*i+r)/8:Nat)) j
        have h2:=HB.out (8*((8*i+r)%8)+j)
        have:=Un (AF b (8*((8*i+r)%8)+j)) (cf (((8*i+r)/8:Nat)) j) 2000000000 4096 (by omega) (by omega)
        unfold YK;omega
       have hob: -70000000000000≤AF o (8*i+r)∧AF o (8*i+r)≤70000000000000:=by rw [hop2];omega
       have HN:Hid (AF o (8*i+r)+AF b (8*r+k)*cv=CX (YK b cf (8*i+r)) (k+1)):=by
        unfold Hid;rw [hop2,CX,YK,show (8*i+r)%8=r by omega,show (8*i+r)/8=i by omega,hcv]
       have HCV:=AD hcv
       clear hop hop2 hsb hcv
       repeat' (first
        | refine X0 ?_|refine X2 ?_|refine AG ?_;go_step|fail)
       refine AP [19] (fun w=>St w0 w [arr g4 64 o,arr g2 64 b]) AA ?_
       replace hS:=hS.drew
       focus
        refine AY 0 ?_
        refine fD 1 ?_
        refine AY 2 ?_
        refine Vv 3 ?_
        refine kV 4 ?_
        refine lF 5 [17,18,19] ?_
        refine AY 6 ?_
        refine fD 7 ?_
        refine AY 8 ?_
        refine Vv 9 ?_
        refine kV 10 ?_
        refine lF 11 [16,17,18,19] ?_
        refine AY 12 ?_
        refine AY 13 ?_
        refine AY 14 ?_
        refine Ao 15 ?_
        refine BQ (f:=K) rfl rfl HK.out.call (HK.out.run i k _ (by omega) (by omega)) ?_;rintro e w ⟨rfl,hE⟩;replace hS:=hS.ext hE;clear hE;rw [HCV.out];refine ⟨_,rfl,?_⟩
        refine ⟨fun _ _=>hS.sub AV,?_⟩
        refine AI ?_
        go_step
        refine fD 16 ?_
        refine Vv 17 ?_
        refine kV 18 ?_
        refine Ao 19 ?_
        (refine Ix hS 3 _ _ rfl _ _ rfl (AK rfl) _ _ AM _ (by rfl) (by omega) rfl ?_;clear hS;intro w hS)
        refine ⟨fun h=>absurd (by decide) h,?_⟩
        refine AE AA ?_ _
       repeat' (first
        | refine X1 ?_|refine X6 ?_|refine AG ?_;go_step|fail)
       go_roundg (gk-1)
       case measure=>omega
       case rel=>
        have hol:=(hS.arr (g:=g4) (n:=64) AM).2
        rw [List.length_set] at hol
        refine ⟨k+1,_,by omega,by go_num,fun p hp=>?_,hS.sub AV⟩
        rw [Bj o (8*i+r) p _ (by omega)]
        split
        ·rename_i e
         subst e
         rw [HN.out];unfold bV;rw [if_neg (by omega),if_pos (by omega)]
        rename_i e
        rw [HO.out p hp];unfold bV
        by_cases h1:p%8<r∨p%8=r∧p/8<i
        ·rw [if_pos h1,if_pos h1]
        rw [if_neg h1,if_neg h1,if_neg (by omega),if_neg (by omega)]
      obtain rfl:k=8:=by omega
      repeat' (first
       | refine X1 ?_|refine X2 ?_|refine X6 ?_|refine AG ?_;go_step|fail)
      go_roundg (gk2-1)
      case measure=>omega
      case rel=>
       refine ⟨i+1,o,by omega,by go_num,fun p hp=>?_,hS.sub AV⟩
       rw [HO.out p hp];unfold bV jN
       by_cases h1:p%8<r∨p%8=r∧p/8<i
       ·rw [if_pos h1,if_pos (by omega)]
       rw [if_neg h1]
       by_cases h2:p%8=r∧p/8=i
       ·rw [if_pos h2,if_pos (by omega)]
       rw [if_neg h2,if_neg (by omega)];split<;>rfl
    obtain rfl:i=8:=by omega
    repeat' (first
     | refine X1 ?_|refine X2 ?_|refine X6 ?_|refine AG ?_;go_step|fail)
    go_roundg (gk1-1)
    case measure=>omega
    case rel=>
     refine ⟨r+1,o,by omega,by go_num,fun p hp=>?_,hS.sub AV⟩
     rw [HO.out p hp];unfold bV
     by_cases h1:p%8<r∨p%8=r∧p/8<8
     ·rw [if_pos h1,if_pos (by omega)]
     rw [if_neg h1,if_neg (by omega),if_neg (by omega)];split<;>rfl
  obtain rfl:r=8:=by omega
  have hol:=(hS.arr (g:=g4) (n:=64) AM).2
  have lo:Ae o 64:=hol
  repeat' (first
   | refine X2 ?_|refine Hp ?_|refine Ft ?_;clear hS;intro w hS|refine AG ?_;go_step|fail)
  refine BK rfl (AC.arr hS rfl (AN (n:=64) rfl) AM) rfl ?_
  refine ⟨?_,hS.1⟩
  rw [Nf,←Ir hol fun p hp=>by rw [HO.out p hp];unfold bV;rw [if_pos (by omega)]]
def GD(b:List Int):Bool:=By b (-40000) 40000
def i7(cf:Int→Int→Int)(b:List Int)(p:Nat):Int:=FI (AF (Nf (Nf b cf) cf) p) 67108864
def Xe(cf:Int→Int→Int)(b:List Int):List Int:=if GD b then aW 64 (i7 cf b) else List.replicate 64 0
def ed(b:List Int):Int:=if GD b then 0 else 1
theorem B7(cf:Int→Int→Int)(b:List Int):Ae (Xe cf b) 64:=by
 show (Xe cf b).length=64
 unfold Xe;split
 ·exact Bb _ _
 simp
theorem O4(b:List Int)(cf:Int→Int→Int)(hc:∀i k:Int,-4096≤cf i k∧cf i k≤4096)(B:Int)(hB:∀i,-B≤AF b i∧AF b i≤B)(i:Nat): -(8*(B*4096))≤AF (Nf b cf) i∧AF (Nf b cf) i≤8*(B*4096):=by
 have h0:=hB 0
 by_cases hi:i<64
 ·rw [Nf,Cm _ _ _ hi,jN]
  have:=fS (YK b cf i) (B*4096) 8 fun j hj=>Un _ _ _ _ (hB _) (hc _ _)
  simpa using this
 rw [Bp _ _ (by rw [Nf,Bb];omega)];omega
theorem kI{b:List Int}(h:GD b=true)(i:Nat): -40000≤AF b i∧AF b i≤40000:=by
 by_cases hi:i<b.length
 ·exact (Aw _ _ _).1 h i hi
 rw [Bp _ _ (by omega)];omega
theorem NO(n:Int)(w:World):Calls Tryz.prog 115 #[.int .i64 n] w fun e w'=>e= .returned (.bool (decide (n< -40000)||decide (40000<n)))∧w=w':=by
 go_enter Tryz.func115,Tryz.ntmps115
 repeat' (first
  | go_skip|((first|(with_reducible refine LJ ?_)|(with_reducible refine T9 ?_));(first|go_big_want|go_step);go_step)|((with_reducible refine Ak _ (.pick _ _ _) ?_);first|(refine BL rfl AA ?_;go_step)|(refine BB rfl AA ?_;go_step))|((refine AQ 4 ?_);(refine DL _ (V.lss rfl rfl) AA (fun hB=>?_) (fun hB=>?_)<;>(try exact AS)<;>go_step))|((with_reducible refine Ak _ (.binOp .gtr _ _ _ _) ?_);(refine Aq AA (V.gtr rfl rfl) ?_;go_step))|(refine AG ?_;go_step)|fail)
 all_goals (go_ret;exact ⟨DF (by simp;omega),rfl⟩)
theorem QM(l:List Int):(l.any fun n=>decide (n< -40000)||decide (40000<n))= !GD l:=by unfold GD By;simp
theorem Ot(w0:World)(b:List Int)(K:FuncId)(cf:Int→Int→Int)(hK:bf K cf)(hb:Ae b 64):
 Calls Tryz.prog 79 #[.agg (iv b), .func (.func K) #[] #[]] w0 fun e w=>e= .returned (.tuple #[.agg (iv (Xe cf b)), .int .i64 (ed b)])∧Ah w0 w:=by
 have hS:=St.start w0
 have HK:=AD hK
 clear hK
 cases hok:GD b
 ·have HO:=AD hok
  clear hok
  go_enter Tryz.func79,Tryz.ntmps79
  repeat' (first
   | (refine Am 76 ?_);refine An AA Tryz.call76 (BH _ _ b (hS.isl AM (by omega)) 115 #[] (fun n=>decide (n< -40000)||decide (40000<n)) Tryz.call115 (fun n=>NO n _)) ?_;rintro e w' ⟨rfl,rfl⟩;rw [QM,HO.out];refine Ab ?_;go_step|refine X8 ?_|refine gh ?_|(refine AQ 10 ?_);(refine Aq AA (V.build (vs:=[]) rfl (YR)) ?_;go_step)|refine L7 2 ?_;clear hS;intro g2 w hS|refine Kk 4 ?_;clear hS;intro g4 w hS|refine Ft ?_;clear hS;intro w hS|refine AG ?_;go_step|fail)
  refine AO (xs:=[_,_]) rfl (.cons (AC.arr hS rfl (AN (n:=64) rfl) AM) (.cons (AC.tmp rfl) (.nil))) (by simp) rfl ?_
  exact ⟨by unfold Xe ed;rw [HO.out];rfl,hS.1⟩
 have HO:=AD hok
 have HB1:=AD (kI hok)
 have HB2:=AD (O4 b cf HK.out.bd 40000 HB1.out)
 have HB3:=AD (O4 (Nf b cf) cf HK.out.bd (8*(40000*4096)) HB2.out)
 have hl1:Ae (Nf b cf) 64:=Bb _ _
 have hl2:Ae (Nf (Nf b cf) cf) 64:=Bb _ _
 clear hok
 go_enter Tryz.func79,Tryz.ntmps79
 repeat' (first
  | (refine Am 76 ?_);refine An AA Tryz.call76 (BH _ _ b (hS.isl AM (by omega)) 115 #[] (fun n=>decide (n< -40000)||decide (40000<n)) Tryz.call115 (fun n=>NO n _)) ?_;rintro e w' ⟨rfl,rfl⟩;rw [QM,HO.out];refine Ab ?_;go_step|(refine AQ 13 ?_);refine AL (f:=116) Tryz.call116 AA ?_;refine ⟨_,OK _ b K cf HK.out (by assumption) (fun i=>by have:=HB1.out i;omega),?_⟩;rintro e w ⟨rfl,hE⟩;replace hS:=hS.ext hE;clear hE;refine Ab ?_;go_step|(refine AQ 15 ?_);refine AL (f:=116) Tryz.call116 AA ?_;refine ⟨_,OK _ (Nf b cf) K cf HK.out (by assumption) (fun i=>by have:=HB2.out i;omega),?_⟩;rintro e w ⟨rfl,hE⟩;replace hS:=hS.ext hE;clear hE;refine Ab ?_;go_step|refine X0 ?_|refine gh ?_|refine L7 2 ?_;clear hS;intro g2 w hS|refine Kk 4 ?_;clear hS;intro g4 w hS|refine Ft ?_;clear hS;intro w hS|refine Hp ?_|refine AG ?_;go_step|fail)
 obtain ⟨al,hal⟩:∃al,Nf (Nf b cf) cf=al:=⟨_,rfl⟩
 rw [hal] at hS hl2⊢
 have HAL:=AD hal
 have HB4:Hid (∀i,-2305843009213693951≤AF al i∧AF al i≤2305843009213693951):=fun i=>by have:=HB3.out i;rw [HAL.out] at this;omega
 clear hal HB3 HB2 HB1 hl1
 go_loopg [17] 64 (fun gk kv w=>∃(i:Nat) (o:List Int),gk+i=64∧kv= .int .i64 i∧(∀p,p<i→AF o p=i7 cf b p)∧St w0 w [arr g2 64 o,arr g4 64 (List.replicate 64 0)])
 case atStart=>exact ⟨0,_,rfl,rfl,fun p hp=>by omega,hS.sub AV⟩
 case round=>
  clear hS
  obtain ⟨i,o,hi,rfl,ho,hS⟩:=hrel
  have HO2:=AD ho
  clear ho
  have hol:=(hS.arr (g:=g2) (n:=64) AM).2
  by_cases hlt:i<64
  ·have hbb:=HB4.out i
   have HV:Hid (FI (AF al i) 67108864=i7 cf b i):=by unfold Hid i7;rw [HAL.out]
   repeat' (first
    | (refine Am 64 ?_);refine An AA Tryz.call64 (H5 (AF al i) 67108864 _ (by omega) (by omega) (by omega) (by omega)) ?_;rintro e w' ⟨rfl,rfl⟩;rw [HV.out];refine Ab ?_;go_step|refine X0 ?_|refine X2 ?_|refine YB 20 ?_|refine Vq 24 ?_|refine X6 ?_|refine Xm ?_;clear hS;intro w hS|refine AG ?_;go_step|fail)
   go_roundg (gk-1)
   case measure=>omega
   case rel=>
    refine ⟨i+1,_,by omega,by go_num,fun p hp=>?_,hS.sub AV⟩
    rw [Bj o i p _ (by omega)]
    split
    ·rename_i e;rw [e]
    exact HO2.out p (by have h9:p<i+1:=hp;omega)
  obtain rfl:i=64:=by omega
  have lo:Ae o 64:=hol
  have hw:o=aW 64 (i7 cf b):=Ir hol fun p hp=>HO2.out p hp
  have HW:=AD hw
  clear hw
  repeat' (first
   | refine X8 ?_|refine X2 ?_|refine Hp ?_|refine Ft ?_;clear hS;intro w hS|refine AG ?_;go_step|fail)
  refine AO (xs:=[_,_]) rfl (.cons (AC.arr hS rfl (AN (n:=64) rfl) AM) (.cons (AC.tmp rfl) (.nil))) (by simp) rfl ?_
  exact ⟨by unfold Xe ed;rw [HO.out,HW.out];rfl,hS.1⟩
theorem SX:bf 80 At:=⟨Tryz.call80,fun i k w h1 h2=>OL w i k (by omega) (by omega),LS⟩
def YY(i k:Int):Int:=At k i
def Gp(b:List Int):List Int:=Xe At b
def Em(b:List Int):List Int:=Xe YY b
theorem ea(w0:World)(b:List Int)(hb:Ae b 64):Calls Tryz.prog 47 #[.agg (iv b)] w0 fun e w=>e= .returned (.tuple #[.agg (iv (Gp b)), .int .i64 (ed b)])∧Ah w0 w:=by
 have hS:=St.start w0
 have hl:Ae (Xe At b) 64:=B7 _ _
 go_enter Tryz.func47,Tryz.ntmps47
 repeat' (first
  | (refine Am 79 ?_);refine An AA Tryz.call79 (Ot _ b 80 At SX (by assumption)) (Fq hS ?_);clear hS;intro w hS;go_step|refine X8 ?_|refine X7 ?_|refine L7 1 ?_;clear hS;intro g1 w hS|refine Kk 2 ?_;clear hS;intro g2 w hS|refine Hp ?_|refine Ft ?_;clear hS;intro w hS|refine AG ?_;go_step|fail)
 refine AO (xs:=[_,_]) rfl (.cons (AC.arr hS rfl (AN (n:=64) rfl) AM) (.cons (AC.tmp rfl) (.nil))) (by simp) rfl ?_
 exact ⟨rfl,hS.1⟩
theorem Wa(w0:World)(i k:Int)(hu:0≤i∧i≤7)(hx:0≤k∧k≤7):Calls Tryz.prog 127 #[.int .i64 i, .int .i64 k] w0 fun e w=>e= .returned (.int .i64 (YY i k))∧Ah w0 w:=by
 have hS:=St.start w0
 go_enter Tryz.func127,Tryz.ntmps127
 repeat' (first
  | (refine Am 80 ?_);refine An AA Tryz.call80 (OL _ k i (by omega) (by omega)) (Fq hS ?_);clear hS;intro w hS;go_step|refine X0 ?_|refine AG ?_;go_step|fail)
 go_ret
 exact ⟨rfl,hS.1⟩
theorem WD:bf 127 YY:=⟨Tryz.call127,fun i k w h1 h2=>Wa w i k (by omega) (by omega),fun i k=>LS k i⟩
theorem XQ(w0:World)(b:List Int)(hb:Ae b 64):Calls Tryz.prog 94 #[.agg (iv b)] w0 fun e w=>e= .returned (.tuple #[.agg (iv (Em b)), .int .i64 (ed b)])∧Ah w0 w:=by
 have hS:=St.start w0
 have hl:Ae (Xe YY b) 64:=B7 _ _
 go_enter Tryz.func94,Tryz.ntmps94
 repeat' (first
  | (refine Am 79 ?_);refine An AA Tryz.call79 (Ot _ b 127 YY WD (by assumption)) (Fq hS ?_);clear hS;intro w hS;go_step|refine X8 ?_|refine X7 ?_|refine L7 1 ?_;clear hS;intro g1 w hS|refine Kk 2 ?_;clear hS;intro g2 w hS|refine Hp ?_|refine Ft ?_;clear hS;intro w hS|refine AG ?_;go_step|fail)
 refine AO (xs:=[_,_]) rfl (.cons (AC.arr hS rfl (AN (n:=64) rfl) AM) (.cons (AC.tmp rfl) (.nil))) (by simp) rfl ?_
 exact ⟨rfl,hS.1⟩
theorem Vy(m0:Int)(m1:Int)(w:World):(Instr.build 107 #[(0, .int .i64 m0),(1, .int .i64 m1)]).run Tryz.prog w= .ok (.agg #[.int .i64 m0, .int .i64 m1]) w:=by kernel_rfl
theorem Dh(w0:World)(m n:Int):Calls Tryz.prog 58 #[.agg #[.int .i64 m, .int .i64 n]] w0 fun e w'=>e= .returned (.int .i64 (if 1≤m∧m≤64∧1≤n∧n≤64 then 0 else 1))∧Ah w0 w':=by
 have hS:=St.start w0
 go_enter Tryz.func58,Tryz.ntmps58
 repeat' (first
  | go_skip|((first|(with_reducible refine LJ ?_)|(with_reducible refine T9 ?_));(first|go_big_want|go_step);go_step)|((with_reducible refine Ak _ (.pick _ _ _) ?_);first|(refine BL rfl AA ?_;go_step)|(refine BB rfl AA ?_;go_step))|((refine AQ 5 ?_);(refine DL _ (V.lss rfl rfl) AA (fun hB=>?_) (fun hB=>?_)<;>(try exact AS)<;>go_step))|((refine AQ 9 ?_);(refine DL _ (V.gtr rfl rfl) AA (fun hB=>?_) (fun hB=>?_)<;>(try exact AS)<;>go_step))|((refine AQ 14 ?_);(refine DL _ (V.lss rfl rfl) AA (fun hB=>?_) (fun hB=>?_)<;>(try exact AS)<;>go_step))|((with_reducible refine Ak _ (.fieldAddr 107 _ 0) ?_);(refine Aq AA (V.fieldAddr UW rfl BT) ?_;go_step))|((with_reducible refine Ak _ (.fieldAddr 107 _ 1) ?_);(refine Aq AA (V.fieldAddr UX rfl BT) ?_;go_step))|((with_reducible refine Ak _ (.binOp .gtr _ _ _ _) ?_);(refine Aq AA (V.gtr rfl rfl) ?_;go_step))|((refine AQ 1 ?_);(refine Ad ?_;apply CZ (o:=⟨some 1,_,_,_,_,_⟩) hS 107 _ rfl _ rfl;clear hS;intro g1 w hS;refine AB ?_;go_step))|((with_reducible refine Ak _ (.load 3 _) ?_);(refine Ad ?_;apply AZ hS 3 _ rfl _ _ rfl (AK rfl) _;(case hp=>exact AM);(case hc=>rfl);refine AB ?_;go_step))|(refine AG ?_;go_step)|fail)
 all_goals (go_ret;exact ⟨GY (by omega),hS.1⟩)
theorem MA(w0:World)(m n:Int)(h:1≤m∧m≤64):Calls Tryz.prog 97 #[.agg #[.int .i64 m, .int .i64 n]] w0 fun e w'=>e= .returned (.int .i64 ((m+7)/8))∧Ah w0 w':=by
 have hS:=St.start w0
 go_enter Tryz.func97,Tryz.ntmps97
 repeat' (first
  | (refine AQ 6 ?_);(refine Af (.int _ (m+7)) (V.as (V.subI rfl rfl (by omega)) (by omega)) (by kernel_rfl) ?_;go_step)|refine X8 ?_|(with_reducible refine Ak _ (.fieldAddr 107 _ 0) ?_);(refine Aq AA (V.fieldAddr UW rfl BT) ?_;go_step)|refine X6 ?_|(with_reducible refine Ak _ (.binOp .quo _ _ _ _) ?_);(refine Aq AA (V.quo rfl rfl (by omega) (by omega)) ?_;go_step)|(refine AQ 1 ?_);(refine Ad ?_;apply CZ (o:=⟨some 1,_,_,_,_,_⟩) hS 107 _ rfl _ rfl;clear hS;intro g1 w hS;refine AB ?_;go_step)|refine E6 ?_|refine AG ?_;go_step|fail)
 go_ret
 exact ⟨rfl,hS.1⟩
theorem JM(w0:World)(m n:Int)(h:1≤m∧m≤64)(h2:1≤n∧n≤64):Calls Tryz.prog 59 #[.agg #[.int .i64 m, .int .i64 n]] w0 fun e w'=>e= .returned (.int .i64 ((m+7)/8*((n+7)/8)))∧Ah w0 w':=by
 have hS:=St.start w0
 obtain ⟨k0,k1⟩:=Dv ((m+7)/8) ((n+7)/8) 8 8 (by omega) (by omega)
 go_enter Tryz.func59,Tryz.ntmps59
 repeat' (first
  | refine X8 ?_|(refine AQ 1 ?_);(refine Ad ?_;apply CZ (o:=⟨some 1,_,_,_,_,_⟩) hS 107 _ rfl _ rfl;clear hS;intro g1 w hS;refine AB ?_;go_step)|refine AG ?_;go_step|fail)
 refine AP [] (fun w=>St w0 w [blk g1 [.int .i64 m, .int .i64 n]]) AA ?_
 replace hS:=hS.drew
 focus
  refine kb 0 [1,7,8] ?_
  refine CA 2 BZ (V.fieldAddr UX rfl BT) ?_;go_step
  refine Y5 3 [4,5,6,7,8] ?_
  refine Vv 4 ?_
  (refine BA 5 (.int _ (n+7)) Ai AA AA AA B5 (V.as (V.subI rfl rfl (by omega)) (by omega)) AA ?_)
  go_step
  refine CA 6 BZ (V.quo rfl rfl (by omega) (by omega)) ?_;go_step
  refine Ao 1 ?_
  refine AR (f:=97) rfl Tryz.call97 (MA _ m n h) ?_;rintro e w ⟨rfl,hE⟩;replace hS:=hS.ext hE;clear hE;refine ⟨_,rfl,?_⟩
  refine ⟨fun _ _=>hS.sub AV,?_⟩
  refine AI ?_
  go_step
  refine fD 7 ?_
  refine AY 8 ?_
  refine AE AA ?_ _
 all_goals
  repeat' (first
   | refine AG ?_;go_step|fail)
 all_goals (go_ret;exact ⟨rfl,hS.1⟩)
theorem I5(w0:World)(m n:Int):Calls Tryz.prog 32 #[.int .i64 m, .int .i64 n] w0 fun e w'=>e= .returned (.tuple #[.int .i64 (if 1≤m∧m≤64∧1≤n∧n≤64 then (m+7)/8*((n+7)/8) else 0), .int .i64 (if 1≤m∧m≤64∧1≤n∧n≤64 then 0 else 1)])∧Ah w0 w':=by
 have hS:=St.start w0
 by_cases hok:1≤m∧m≤64∧1≤n∧n≤64
 all_goals
  (first|simp only [if_pos hok]|simp only [if_neg hok])
  go_enter Tryz.func32,Tryz.ntmps32
  repeat' (first
   | (refine Am 58 ?_);refine An AA Tryz.call58 (Dh _ m n) ?_;rintro e w ⟨rfl,hE⟩;replace hS:=hS.ext hE;clear hE;(first|rw [if_pos hok]|rw [if_neg hok]);refine Ab ?_;go_step|(refine Am 59 ?_);refine An AA Tryz.call59 (JM _ m n (by omega) (by omega)) (Fq hS ?_);clear hS;intro w hS;go_step|refine X0 ?_|refine go 10 ?_|refine X5 ?_|refine gS 6 ?_;clear hS;intro g6 w hS|refine gU ?_;clear hS;intro w hS|refine bS ?_|refine AG ?_;go_step|fail)
  go_ret2
  exact ⟨rfl,hS.1⟩
theorem H6(w0:World)(m n:Int):Calls Tryz.prog 25 #[.int .i64 m, .int .i64 n] w0 fun e w'=>e= .returned (.tuple #[.int .i64 (m%64+1), .int .i64 (n%64+1)])∧w0=w':=by
 have h1:=Int.emod_nonneg m (b:=64) (by omega)
 have h2:=Int.emod_lt_of_pos m (b:=64) (by omega)
 have h3:=Int.emod_nonneg n (b:=64) (by omega)
 have h4:=Int.emod_lt_of_pos n (b:=64) (by omega)
 go_enter Tryz.func25,Tryz.ntmps25
 repeat' (first
  | (refine Am 28 ?_);refine An AA Tryz.call28 (Cu _ 64 _ (by omega) (by omega)) ?_;rintro e w' ⟨rfl,rfl⟩;refine Ab ?_;go_step|refine X0 ?_|refine X6 ?_|refine AG ?_;go_step|fail)
 go_ret2
 exact ⟨rfl,rfl⟩
def GW(ac k i:Int):Int:=k/ac*8+i/8
def FH(ac k i:Int):Int:=k%ac*8+i%8
theorem KS(w0:World)(m n k i:Int)(h:1≤m∧m≤64)(hk:0≤k∧k≤100000)(hi:0≤i∧i<64):
 Calls Tryz.prog 78 #[.agg #[.int .i64 m, .int .i64 n], .int .i64 k, .int .i64 i] w0 fun e w'=>e= .returned (.tuple #[.int .i64 (GW ((m+7)/8) k i), .int .i64 (FH ((m+7)/8) k i)])∧Ah w0 w':=by
 have hS:=St.start w0
 have ha:1≤(m+7)/8:=by omega
 have ha8:(m+7)/8≤8:=by omega
 have HA:=AD (fun (w:World)=>MA w m n h)
 generalize hac:(m+7)/8=ac at*
 clear hac
 have q1:0≤k/ac:=Int.ediv_nonneg hk.1 (by omega)
 have q2:k/ac≤k:=Int.ediv_le_self ac hk.1
 have q3:=Int.emod_nonneg k (b:=ac) (by omega)
 have q4:=Int.emod_lt_of_pos k (b:=ac) (by omega)
 go_enter Tryz.func78,Tryz.ntmps78
 repeat' (first
  | refine X8 ?_|(refine AQ 3 ?_);(refine Ad ?_;apply CZ (o:=⟨some 3,_,_,_,_,_⟩) hS 107 _ rfl _ rfl;clear hS;intro g3 w hS;refine AB ?_;go_step)|refine AG ?_;go_step|fail)
 refine AP [10] (fun w=>St w0 w [blk g3 [.int .i64 m, .int .i64 n]]) AA ?_
 replace hS:=hS.drew
 focus
  refine AY 0 ?_
  refine kb 1 [2,3,4,7,10,11,12,15,16,17] ?_
  refine AY 5 ?_
  refine CA 6 BZ (V.quo rfl rfl (by omega) (by omega)) ?_;go_step
  refine AY 8 ?_
  refine kb 9 [10,11,12,15,16,17] ?_
  refine AY 13 ?_
  refine CA 14 BZ (V.rem rfl rfl (by omega) (by omega)) ?_;go_step
  refine Ao 2 ?_
  refine AR (f:=97) rfl Tryz.call97 (HA.out _) ?_;rintro e w ⟨rfl,hE⟩;replace hS:=hS.ext hE;clear hE;refine ⟨_,rfl,?_⟩
  refine ⟨fun _ _=>hS.sub AV,?_⟩
  refine AI ?_
  go_step
  refine CA 3 BZ (V.quo rfl rfl (by omega) (by omega)) ?_;go_step
  refine fD 4 ?_
  refine Vv 7 ?_
  refine Ao 10 ?_
  refine AR (f:=97) rfl Tryz.call97 (HA.out _) ?_;rintro e w ⟨rfl,hE⟩;replace hS:=hS.ext hE;clear hE;refine ⟨_,rfl,?_⟩
  refine ⟨fun h=>absurd (by decide) h,?_⟩
  refine AI ?_
  go_step
  refine CA 11 BZ (V.rem rfl rfl (by omega) (by omega)) ?_;go_step
  refine fD 12 ?_
  refine Vv 15 ?_
  refine AY 16 ?_
  refine AY 17 ?_
  refine AE AA ?_ _
 all_goals
  repeat' (first
   | refine AG ?_;go_step|fail)
 all_goals (go_ret2;exact ⟨rfl,hS.1⟩)
def Aa(m n:Int):Nat:=(((m+7)/8)*((n+7)/8)).toNat
def Z7(l:List Int):Bool:=By l 0 255
def Cw(l:List Int)(n:Nat)(m h:Int):Int:=if 1≤m∧m≤64∧1≤h∧h≤64 then if (n:Int)=m*h then if Z7 l then 0 else 1 else 4 else 1
def KF(l:List Int)(m h:Int)(x:Nat):Int:=AF l ((min (GW ((m+7)/8) (x/64:Nat) (x%64:Nat)) (h-1))*m+min (FH ((m+7)/8) (x/64:Nat) (x%64:Nat)) (m-1)).toNat-128
def C8(l:List Int)(m h:Int):List Int:=aW (Aa m h*64) (KF l m h)
theorem Yd(n:Int)(w:World):Calls Tryz.prog 77 #[.int .i64 n] w fun e w'=>e= .returned (.bool (decide (n<0)||decide (255<n)))∧w=w':=by
 go_enter Tryz.func77,Tryz.ntmps77
 repeat' (first
  | go_skip|((first|(with_reducible refine LJ ?_)|(with_reducible refine T9 ?_));(first|go_big_want|go_step);go_step)|((with_reducible refine Ak _ (.pick _ _ _) ?_);first|(refine BL rfl AA ?_;go_step)|(refine BB rfl AA ?_;go_step))|((refine AQ 4 ?_);(refine DL _ (V.lss rfl rfl) AA (fun hB=>?_) (fun hB=>?_)<;>(try exact AS)<;>go_step))|((with_reducible refine Ak _ (.binOp .gtr _ _ _ _) ?_);(refine Aq AA (V.gtr rfl rfl) ?_;go_step))|(refine AG ?_;go_step)|fail)
 all_goals (go_ret;exact ⟨DF (by simp;omega),rfl⟩)
def QH(w0:World)(l:List Int)(n:Nat)(m h:Int)(e:Ending)(w:World):Prop:=
 ∃ad c,e= .returned (.tuple #[.slice ad (if Cw l n m h=0 then Aa m h else 0) c, .int .i64 (Cw l n m h)])∧St w0 w [own 26 64 ad (if Cw l n m h=0 then Aa m h else 0) c ((if Cw l n m h=0 then C8 l m h else []).map (Value.int .i64))]
theorem Sc{w0 w:World}{l:List Int}{n:Nat}{m h:Int}(E:Int)(h1:Cw l n m h=E)(h2:E≠0)(hE:Ah w0 w):QH w0 l n m h (.returned (.tuple #[.slice none 0 0, .int .i64 E])) w:=by
 refine ⟨none,0,?_,?_⟩
 ·rw [h1,if_neg h2]
 rw [if_neg (by rw [h1];exact h2),if_neg (by rw [h1];exact h2)];exact (St.of_ext hE).nil _ _
theorem T8(l:List Int):(l.any fun n=>decide (n<0)||decide (255<n))= !Z7 l:=by unfold Z7 By;simp
theorem G8(m h:Int)(hm:1≤m∧m≤64)(hh:1≤h∧h≤64)(k i:Int)(hk:0≤k)(hi:0≤i∧i<64):
 0≤GW ((m+7)/8) k i∧0≤FH ((m+7)/8) k i∧FH ((m+7)/8) k i<64∧0≤(min (GW ((m+7)/8) k i) (h-1))*m∧(min (GW ((m+7)/8) k i) (h-1))*m+min (FH ((m+7)/8) k i) (m-1)<m*h:=by
 have q1:0≤k/((m+7)/8):=Int.ediv_nonneg hk (by omega)
 have q3:=Int.emod_nonneg k (b:=(m+7)/8) (by omega)
 have q4:=Int.emod_lt_of_pos k (b:=(m+7)/8) (by omega)
 unfold GW FH
 generalize k/((m+7)/8)=a at*
 generalize k%((m+7)/8)=b at*
 have r0:0≤min (a*8+i/8) (h-1):=by omega
 have r1:min (a*8+i/8) (h-1)≤h-1:=by omega
 generalize min (a*8+i/8) (h-1)=r at*
 have t1:0≤r*m:=Int.mul_nonneg r0 (by omega)
 have t2:r*m≤(h-1)*m:=Int.mul_le_mul_of_nonneg_right r1 (by omega)
 have t3:(h-1)*m=m*h-m:=by rw [Int.sub_mul,Int.one_mul,Int.mul_comm h m]
 refine ⟨by omega,by omega,by omega,by omega,by omega⟩
theorem O6(w0:World)(ad:Option Addr)(n c:Nat)(l:List Int)(m h:Int)(hm64: -9223372036854775808≤m∧m≤9223372036854775807)(hn:n≤9223372036854775807)(hv:Sl w0 1 (.slice ad n c) n (l.map (Value.int .i64)))(hcl:(callFunc 77:Array Value→Sem Next)=callFunc 77):
 Calls Tryz.prog 46 #[.slice ad n c, .int .i64 m, .int .i64 h] w0 (QH w0 l n m h):=by
 have hl:l.length=n:=by have:=hv.1;simpa using this
 have hS:=St.start w0
 have HC:=AD (fun (w:World)(hE:Ah w0 w)=>BH w (.slice ad n c) l (by unfold QI;rw [hl];exact hv.ext hE) 77 #[] (fun n=>decide (n<0)||decide (255<n)) Tryz.call77 (fun n=>Yd n w))
 have HL:=AD hl
 clear hl hcl
 by_cases hok:1≤m∧m≤64∧1≤h∧h≤64
 case neg=>
  have HE:=AD (show Cw l n m h=1 by rw [Cw,if_neg hok])
  go_enter Tryz.func46,Tryz.ntmps46
  repeat' (first
   | (refine Am 58 ?_);refine An AA Tryz.call58 (Dh _ m h) ?_;rintro e w ⟨rfl,hE⟩;replace hS:=hS.ext hE;clear hE;rw [if_neg hok];refine Ab ?_;go_step|refine X0 ?_|refine go 17 ?_|refine X5 ?_|refine gS 8 ?_;clear hS;intro g8 w hS|refine gU ?_;clear hS;intro w hS|refine bS ?_|refine AG ?_;go_step|fail)
  go_ret2
  exact Sc 1 HE.out (by decide) hS.1
 obtain ⟨k0,k1⟩:=Dv m h 64 64 (by omega) (by omega)
 by_cases hnm:(n:Int)=m*h
 case neg=>
  have HE:=AD (show Cw l n m h=4 by rw [Cw,if_pos hok,if_neg hnm])
  go_enter Tryz.func46,Tryz.ntmps46
  repeat' (first
   | (refine Am 58 ?_);refine An AA Tryz.call58 (Dh _ m h) ?_;rintro e w ⟨rfl,hE⟩;replace hS:=hS.ext hE;clear hE;rw [if_pos hok];refine Ab ?_;go_step|refine X0 ?_|refine go 17 ?_|refine X5 ?_|refine Vs ?_|refine Xn ?_|refine LH ?_|refine gS 8 ?_;clear hS;intro g8 w hS|refine gU ?_;clear hS;intro w hS|refine bS ?_|refine AG ?_;go_step|fail)
  go_ret2
  exact Sc 4 HE.out (by decide) hS.1
 replace hn:n≤100000:=by omega
 by_cases hs:Z7 l=true
 case neg=>
  have hs':(!Z7 l)=true:=by simpa using hs
  have HE:=AD (show Cw l n m h=1 by rw [Cw,if_pos hok,if_pos hnm,if_neg hs])
  go_enter Tryz.func46,Tryz.ntmps46
  repeat' (first
   | (refine Am 58 ?_);refine An AA Tryz.call58 (Dh _ m h) ?_;rintro e w ⟨rfl,hE⟩;replace hS:=hS.ext hE;clear hE;rw [if_pos hok];refine Ab ?_;go_step|(refine Am 76 ?_);refine An AA Tryz.call76 (HC.out _ hS.1) ?_;rintro e w' ⟨rfl,rfl⟩;rw [T8,hs'];refine Ab ?_;go_step|refine X0 ?_|refine go 17 ?_|refine X5 ?_|refine Vs ?_|refine Xn ?_|refine LH ?_|refine gS 8 ?_;clear hS;intro g8 w hS|refine gU ?_;clear hS;intro w hS|refine bS ?_|refine AG ?_;go_step|fail)
  go_ret2
  exact Sc 1 HE.out (by decide) hS.1
 have hs':(!Z7 l)=false:=by simpa using hs
 have HE:=AD (show Cw l n m h=0 by rw [Cw,if_pos hok,if_pos hnm,if_pos hs])
 have HS:=AD hs
 obtain ⟨kk0,kk1⟩:=Dv ((m+7)/8) ((h+7)/8) 8 8 (by omega) (by omega)
 have kk2:0≤((m+7)/8)*((h+7)/8):=Int.mul_nonneg (by omega) (by omega)
 obtain ⟨K,hK⟩:∃K,Aa m h=K:=⟨_,rfl⟩
 have hK2:(m+7)/8*((h+7)/8)=(K:Int):=by rw [←hK,Aa];omega
 have hK3:K≤64:=by omega
 have HB:Hid (∀x:Nat,x<K*64→ -9223372036854775000≤KF l m h x∧KF l m h x≤9223372036854775000):=fun x hx=>by
  unfold KF
  have p0:=G8 m h ⟨hok.1,hok.2.1⟩ hok.2.2 (x/64:Nat) (x%64:Nat) (by omega) (by omega)
  have:=(Aw l 0 255).1 hs ((min (GW ((m+7)/8) (x/64:Nat) (x%64:Nat)) (h-1))*m+min (FH ((m+7)/8) (x/64:Nat) (x%64:Nat)) (m-1)).toNat (by rw [HL.out];omega)
  omega
 have HK:=AD hK
 clear hs hs' hK kk0 kk1 kk2
 obtain ⟨b0,off,rfl,hcell⟩:∃b off,ad=some ⟨b,off,none⟩∧∀k,k<n→w0.cell? ⟨b,off+k,none⟩=some (.int .i64 (AF l k)):=by
  have h1:0<m*h:=Int.mul_pos (by omega) (by omega)
  have hvI:QI w0 (.slice ad n c) l:=by unfold QI;rw [HL.out];exact hv
  obtain ⟨a',c',e1,_,_,hI⟩:=hvI.open
  cases e1
  obtain ⟨b,off,e2,h3⟩:=hI 0 (by rw [HL.out];omega)
  exact ⟨b,off,e2,fun k hk=>h3 k (by rw [HL.out];exact hk)⟩
 have HCell:=AD hcell
 clear hcell
 go_enter Tryz.func46,Tryz.ntmps46
 repeat' (first
  | (refine Am 58 ?_);refine An AA Tryz.call58 (Dh _ m h) ?_;rintro e w ⟨rfl,hE⟩;replace hS:=hS.ext hE;clear hE;rw [if_pos hok];refine Ab ?_;go_step|(refine Am 76 ?_);refine An AA Tryz.call76 (HC.out _ hS.1) ?_;rintro e w' ⟨rfl,rfl⟩;rw [T8,HS.out];refine Ab ?_;go_step|(refine Am 59 ?_);refine An AA Tryz.call59 (JM _ m h (by omega) (by omega)) ?_;rintro e w ⟨rfl,hE⟩;replace hS:=hS.ext hE;clear hE;rw [hK2];refine Ab ?_;go_step|refine X0 ?_|refine go 17 ?_|refine X5 ?_|refine Vs ?_|refine Xn ?_|refine LH ?_|refine YE ?_|refine gS 8 ?_;clear hS;intro g8 w hS|refine gU ?_;clear hS;intro w hS|refine bS ?_|refine jX 36 ?_;clear hS;intro g36 w hS|refine AG ?_;go_step|fail)
 go_loopg [39] K (fun gk kv w=>∃(k:Nat) (o:List Int),gk+k=K∧kv= .int .i64 k∧(∀x,x<k*64→AF o x=KF l m h x)∧St w0 w [own 26 64 (some ⟨g36,0,none⟩) K K (o.map (Value.int .i64)),blk g8 [.int .i64 m, .int .i64 h]])
 case atStart=>exact ⟨0,_,rfl,rfl,fun x hx=>by omega,hS.sub AV⟩
 case round=>
  clear hS
  obtain ⟨k,o,hk,rfl,ho,hS⟩:=hrel
  have HO:=AD ho
  clear ho
  by_cases hlt:k<K
  ·obtain ⟨gk1,hgk1⟩:∃x,x=gk:=⟨_,rfl⟩
   subst hgk1
   repeat' (first
    | refine X0 ?_|refine X2 ?_|refine AG ?_;go_step|fail)
   go_loopg [42] 64 (fun gk kv w=>∃(i:Nat) (o:List Int),gk+i=64∧kv= .int .i64 i∧(∀x,x<k*64+i→AF o x=KF l m h x)∧St w0 w [own 26 64 (some ⟨g36,0,none⟩) K K (o.map (Value.int .i64)),blk g8 [.int .i64 m, .int .i64 h]])
   case atStart=>exact ⟨0,o,rfl,rfl,HO.out,hS.sub AV⟩
   case round=>
    clear hS HO
    obtain ⟨i,o,hi,rfl,ho,hS⟩:=hrel
    have HO:=AD ho
    clear ho
    by_cases hlt2:i<64
    ·obtain ⟨R,hR⟩:∃R,GW ((m+7)/8) (k:Int) (i:Int)=R:=⟨_,rfl⟩
     obtain ⟨C,hC⟩:∃C,FH ((m+7)/8) (k:Int) (i:Int)=C:=⟨_,rfl⟩
     obtain ⟨p0,p1,p2,p3,p4⟩:=G8 m h ⟨hok.1,hok.2.1⟩ hok.2.2 (k:Int) (i:Int) (by omega) (by omega)
     have hV:KF l m h (k*64+i)=AF l ((min R (h-1))*m+min C (m-1)).toNat-128:=by
      unfold KF
      rw [show (k*64+i)/64=k by omega,show (k*64+i)%64=i by omega,hR,hC]
     rw [hR] at p0 p3 p4
     rw [hC] at p1 p2 p4
     have HR:=AD hR
     have HCc:=AD hC
     obtain ⟨q,hq⟩:∃q:Nat,(min R (h-1))*m+min C (m-1)=(q:Int):=⟨((min R (h-1))*m+min C (m-1)).toNat,by omega⟩
     rw [hq,Int.toNat_natCast] at hV
     have hc:=HCell.out q (by omega)
     have hx: -9223372036854775000≤AF l q∧AF l q≤9223372036854775000:=by
      have:=(Aw l 0 255).1 (by have:=HS.out;simpa [Z7] using this) q (by rw [HL.out];omega)
      omega
     have HV:=AD hV
     clear hR hC hV
     repeat' (first
      | (refine Am 78 ?_);refine An AA Tryz.call78 (KS _ m h (k:Int) (i:Int) (by omega) (by omega) (by omega)) ?_;rintro e w ⟨rfl,hE⟩;replace hS:=hS.ext hE;clear hE;rw [HR.out,HCc.out];refine Ab ?_;go_step|refine X0 ?_|refine X2 ?_|refine X7 ?_|refine bS ?_|refine AG ?_;go_step|fail)
     refine AP [20] (fun w=>St w0 w []) AA ?_
     replace hS:=hS.drew
     focus
      refine AY 0 ?_
      refine AY 1 ?_
      refine AY 2 ?_
      refine AY 3 ?_
      refine AY 4 ?_
      refine AY 5 ?_
      refine gu 6 ?_
      refine CA 7 BZ (V.min rfl rfl) ?_;go_step
      refine AY 8 ?_
      refine fD 9 ?_
      refine AY 10 ?_
      refine AY 11 ?_
      refine gu 12 ?_
      refine CA 13 BZ (V.min rfl rfl) ?_;go_step
      (refine BA 14 (.int _ ((q:Int))) Ai AA AA AA B5 (V.as (V.addI rfl rfl (by omega)) (by omega)) AA ?_)
      go_step
      refine Y6 15 ?_
      refine fB 16 [17,19,20] ?_
      refine gu 17 ?_
      refine CA 18 BZ (V.indexSl Tryz.underlying42 JJ rfl rfl BJ (by omega) rfl BT) ?_;go_step
      refine kV 19 ?_
      refine Ao 20 ?_
      refine fA ?_;clear hS;intro w hS
      refine AE AA ?_ _
     repeat' (first
      | refine X1 ?_|refine X6 ?_|refine AG ?_;go_step|fail)
     go_roundg (gk-1)
     case measure=>omega
     case rel=>
      have hol:=hS.ownLen (e:=26) AM
      rw [List.length_map,List.length_set] at hol
      refine ⟨i+1,_,by omega,by go_num,fun x hx=>?_,hS.sub AV⟩
      rw [Bj o (k*64+i) x _ (by omega)]
      split
      ·rename_i e;rw [←e,HV.out]
      exact HO.out x (by omega)
    obtain rfl:i=64:=by omega
    repeat' (first
     | refine X1 ?_|refine X2 ?_|refine X6 ?_|refine AG ?_;go_step|fail)
    go_roundg (gk1-1)
    case measure=>omega
    case rel=>exact ⟨k+1,o,by omega,by go_num,fun x hx=>HO.out x (by have h9:x<(k+1)*64:=hx;omega),hS.sub AV⟩
  obtain rfl:k=K:=by omega
  have hol:=hS.ownLen (e:=26) AM
  rw [List.length_map] at hol
  repeat' (first
   | refine X0 ?_|refine X2 ?_|refine AG ?_;go_step|fail)
  go_ret2
  refine ⟨some ⟨g36,0,none⟩,k,?_,?_⟩
  ·rw [HE.out,if_pos rfl,HK.out];rfl
  rw [if_pos HE.out,if_pos HE.out,HK.out,C8,HK.out,←Ir hol fun x hx=>HO.out x hx]
  exact hS.sub AV
def Xj(w0:World)(M:Nat)(e:Ending)(w:World):Prop:=∃ad c p,e= .returned (.slice ad M c)∧p.length=M∧(∀i,0≤AF p i∧AF p i≤255)∧St w0 w [own 3 1 ad M c (p.map (Value.int .i64))]
theorem Hc(w0:World)(ad:Option Addr)(n c M:Nat)(l:List Int)(hM:M≤100000)(hc:n≤9223372036854775807)(hv:Sl w0 1 (.slice ad n c) n (l.map (Value.int .i64))):
 Calls Tryz.prog 26 #[.slice ad n c, .int .i64 M] w0 (Xj w0 M):=by
 have hS:=St.start w0
 go_enter Tryz.func26,Tryz.ntmps26
 repeat' (first
  | refine X0 ?_|refine Vs ?_|refine bw 8 ?_;clear hS;intro g8 w hS|refine AG ?_;go_step|fail)
 go_loopg [11] M (fun gk kv w=>∃(i:Nat) (o:List Int),gk+i=M∧kv= .int .i64 i∧(∀x,0≤AF o x∧AF o x≤255)∧St w0 w [own 3 1 (some ⟨g8,0,none⟩) M M (o.map (Value.int .i64))])
 case atStart=>exact ⟨0,List.replicate (M*1) 0,rfl,rfl,fun x=>by rw [EJ];omega,hS.sub AV⟩
 case round=>
  clear hS
  obtain ⟨i,o,hi,rfl,ho,hS⟩:=hrel
  have HO:=AD ho
  clear ho
  by_cases hlt:i<M
  ·by_cases hn:0<n
   all_goals
    have hmod:0<n→i%n<n:=fun h=>Nat.mod_lt i h
    (try replace hmod:=hmod hn)
    repeat' (first
     | (refine Am 28 ?_);refine An AA Tryz.call28 (Cu _ 256 _ (by omega) (by omega)) ?_;rintro e w' ⟨rfl,rfl⟩;refine Ab ?_;go_step|(refine AQ 28 ?_);refine Af _ (V.add rfl rfl) (by kernel_rfl) ?_;go_step|refine X0 ?_|refine Vs ?_|refine X2 ?_|refine II ?_|(with_reducible refine Ak _ (.binOp .rem _ _ _ _) ?_);(refine Aq AA (V.rem rfl rfl (by omega) (by omega)) ?_;go_step)|refine cT 24 ?_;intro b24 o24 hc24;go_step|(with_reducible refine Ak _ (.binOp .quo _ _ _ _) ?_);(refine Aq AA (V.quo rfl rfl (by omega) (by omega)) ?_;go_step)|refine X6 ?_|refine Vu 30 ?_|refine SQ ?_|refine Vg ?_;clear hS;intro w hS|refine AG ?_;go_step|fail)
    go_roundg (gk-1)
    case measure=>omega
    case rel=>
     have hol:=hS.ownLen (e:=3) AM
     first
      | (rw [List.length_map,List.length_set] at hol
         refine ⟨i+1,_,by omega,by go_num,fun x=>?_,hS.sub AV⟩
         rw [Bj o i x _ (by omega)]
         split
         ·exact ⟨Int.emod_nonneg _ (by omega),by have:=Int.emod_lt_of_pos (IntKind.i64.wrap (AF l (i%n)+(i:Int)/7)) (b:=256) (by omega);omega⟩
         exact HO.out x)
      | exact ⟨i+1,o,by omega,by go_num,HO.out,hS.sub AV⟩
  obtain rfl:i=M:=by omega
  have hol:=hS.ownLen (e:=3) AM
  rw [List.length_map] at hol
  repeat' (first
   | refine X0 ?_|refine X2 ?_|refine AG ?_;go_step|fail)
  go_ret
  exact ⟨some ⟨g8,0,none⟩,i,o,rfl,by omega,HO.out,hS.sub AV⟩
def DD(l:List Int):Bool:=By l (-40000) 40000
def If(n:Nat)(m h:Int):Int:=if 1≤m∧m≤64∧1≤h∧h≤64 then if n=Aa m h then 0 else 4 else 1
def FC(l:List Int)(n:Nat)(m h:Int):Int:=if 1≤m∧m≤64∧1≤h∧h≤64 then if n=Aa m h then if DD l then 0 else 1 else 4 else 1
def Eg(m:Int)(x:Nat):Int:=(x:Int)/m/8*((m+7)/8)+(x:Int)%m/8
def GV(m:Int)(x:Nat):Int:=(x:Int)/m%8*8+(x:Int)%m%8
def JK(l:List Int)(m:Int)(x:Nat):Int:=min (max (AF l (Eg m x*64+GV m x).toNat+128) 0) 255
def C6(l:List Int)(m h:Int):List Int:=aW (m*h).toNat (JK l m)
theorem dd(m k i:Int)(hm:1≤m∧m≤64)(hk:0≤k)(hi:0≤i∧i<64)(x:Nat)(hx:(x:Int)=GW ((m+7)/8) k i*m+FH ((m+7)/8) k i)(hc:FH ((m+7)/8) k i<m):Eg m x=k∧GV m x=i:=by
 have q1:0≤k/((m+7)/8):=Int.ediv_nonneg hk (by omega)
 have q3:=Int.emod_nonneg k (b:=(m+7)/8) (by omega)
 have q5:=Int.mul_ediv_add_emod k ((m+7)/8)
 have e1:(x:Int)/m=GW ((m+7)/8) k i:=by
  rw [hx,Int.add_comm,Int.add_mul_ediv_right _ _ (by omega),Int.ediv_eq_zero_of_lt (by unfold FH;omega) hc];omega
 have e2:(x:Int)%m=FH ((m+7)/8) k i:=by
  rw [hx,Int.add_comm,Int.add_mul_emod_self_right,Int.emod_eq_of_lt (by unfold FH;omega) hc]
 unfold Eg GV
 rw [e1,e2]
 unfold GW FH
 rw [show (k/((m+7)/8)*8+i/8)/8=k/((m+7)/8) by omega,show (k%((m+7)/8)*8+i%8)/8=k%((m+7)/8) by omega,Int.mul_comm (k/((m+7)/8))]
 exact ⟨q5,by omega⟩
theorem Q7(m k i:Int)(hm:1≤m∧m≤64)(x:Nat)(hk:Eg m x=k)(hi:GV m x=i):GW ((m+7)/8) k i=(x:Int)/m∧FH ((m+7)/8) k i=(x:Int)%m:=by
 subst hk;subst hi
 have q3:=Int.emod_nonneg (x:Int) (b:=m) (by omega)
 have q4:=Int.emod_lt_of_pos (x:Int) (b:=m) (by omega)
 have q1:0≤(x:Int)/m:=Int.ediv_nonneg (by omega) (by omega)
 have e1:Eg m x/((m+7)/8)=(x:Int)/m/8:=by
  unfold Eg
  rw [Int.add_comm,Int.add_mul_ediv_right _ _ (by omega),Int.ediv_eq_zero_of_lt (by omega) (by omega)];omega
 have e2:Eg m x%((m+7)/8)=(x:Int)%m/8:=by
  unfold Eg
  rw [Int.add_comm,Int.add_mul_emod_self_right,Int.emod_eq_of_lt (by omega) (by omega)]
 unfold GW FH
 rw [e1,e2]
 unfold GV
 exact ⟨by omega,by omega⟩
theorem GU(m h:Int)(hm:1≤m∧m≤64)(hh:1≤h∧h≤64)(x:Nat)(hx:(x:Int)<m*h):0≤Eg m x∧Eg m x<Aa m h∧0≤GV m x∧GV m x<64∧(x:Int)/m<h∧(x:Int)%m<m:=by
 have q3:=Int.emod_nonneg (x:Int) (b:=m) (by omega)
 have q4:=Int.emod_lt_of_pos (x:Int) (b:=m) (by omega)
 have q1:0≤(x:Int)/m:=Int.ediv_nonneg (by omega) (by omega)
 have q2:(x:Int)/m<h:=Int.ediv_lt_of_lt_mul (by omega) (by rw [Int.mul_comm];exact hx)
 have r1:(x:Int)/m/8≤(h+7)/8-1:=by omega
 have r2:(x:Int)%m/8<(m+7)/8:=by omega
 have r3:(x:Int)/m/8*((m+7)/8)≤((h+7)/8-1)*((m+7)/8):=Int.mul_le_mul_of_nonneg_right r1 (by omega)
 have r4:((h+7)/8-1)*((m+7)/8)=(m+7)/8*((h+7)/8)-(m+7)/8:=by rw [Int.sub_mul,Int.one_mul,Int.mul_comm]
 have r5:0≤(x:Int)/m/8*((m+7)/8):=Int.mul_nonneg (by omega) (by omega)
 unfold Eg GV Aa
 refine ⟨by omega,by omega,by omega,by omega,q2,q4⟩
theorem OV(n:Int)(w:World):Calls Tryz.prog 128 #[.int .i64 n] w fun e w'=>e= .returned (.bool (decide (n< -40000)||decide (40000<n)))∧w=w':=by
 go_enter Tryz.func128,Tryz.ntmps128
 repeat' (first
  | go_skip|((first|(with_reducible refine LJ ?_)|(with_reducible refine T9 ?_));(first|go_big_want|go_step);go_step)|((with_reducible refine Ak _ (.pick _ _ _) ?_);first|(refine BL rfl AA ?_;go_step)|(refine BB rfl AA ?_;go_step))|((refine AQ 4 ?_);(refine DL _ (V.lss rfl rfl) AA (fun hB=>?_) (fun hB=>?_)<;>(try exact AS)<;>go_step))|((with_reducible refine Ak _ (.binOp .gtr _ _ _ _) ?_);(refine Aq AA (V.gtr rfl rfl) ?_;go_step))|(refine AG ?_;go_step)|fail)
 all_goals (go_ret;exact ⟨DF (by simp;omega),rfl⟩)
theorem MB(l:List Int):(l.any fun n=>decide (n< -40000)||decide (40000<n))= !DD l:=by unfold DD By;simp
def EI(E0:Int)(l:List Int)(k:Nat):Int:=if E0=0 then if DD (l.take (k*64)) then 0 else 1 else E0
theorem Fc(l:List Int)(k n:Nat)(hl:l.length=n*64)(hk:k<n):DD (l.take ((k+1)*64))=(DD (l.take (k*64))&&DD (BY l 64 k)):=by
 have:l.take ((k+1)*64)=l.take (k*64)++BY l 64 k:=by
  unfold BY;rw [←List.take_add];congr 1;omega
 rw [this];unfold DD By;simp
theorem Q3{E0:Int}{l:List Int}{k n:Nat}(h:0=EI E0 l k)(hl:l.length=n*64)(hk:k<n)(hs:DD (BY l 64 k)=true):0=EI E0 l (k+1):=by
 unfold EI at*
 rw [Fc l k n hl hk,hs,Bool.and_true]
 exact h
theorem S8{E0:Int}{l:List Int}{k n:Nat}(h:0=EI E0 l k)(hl:l.length=n*64)(hk:k<n)(hs:DD (BY l 64 k)=false):1=EI E0 l (k+1):=by
 unfold EI at*
 rw [Fc l k n hl hk,hs,Bool.and_false]
 split at h
 ·rename_i h0;rw [if_pos h0];rfl
 rename_i h0;exact absurd h.symm h0
theorem Q4{E0 E:Int}{l:List Int}{k n:Nat}(h:E=EI E0 l k)(h0:E≠0)(hl:l.length=n*64)(hk:k<n):E=EI E0 l (k+1):=by
 unfold EI at*
 rw [Fc l k n hl hk]
 split at h
 ·rename_i h1
  rw [if_pos h1]
  split at h
  ·exact absurd h h0
  rename_i h2;rw [h];rw [if_neg];simp [h2]
 rename_i h1;rw [if_neg h1];exact h
theorem S9{l:List Int}{n:Nat}{m h:Int}(h0:FC l n m h=0):(1≤m∧m≤64∧1≤h∧h≤64)∧n=Aa m h∧DD l=true:=by
 unfold FC at h0
 split at h0
 ·rename_i h1
  split at h0
  ·rename_i h2
   split at h0
   ·rename_i h3;exact ⟨h1,h2,h3⟩
   exact absurd h0 (by decide)
  exact absurd h0 (by decide)
 exact absurd h0 (by decide)
def Ho(w0:World)(l:List Int)(n:Nat)(m h:Int)(e:Ending)(w:World):Prop:=
 ∃ad c,e= .returned (.tuple #[.slice ad (if FC l n m h=0 then (m*h).toNat else 0) c, .int .i64 (FC l n m h)])∧St w0 w [own 3 1 ad (if FC l n m h=0 then (m*h).toNat else 0) c ((if FC l n m h=0 then C6 l m h else []).map (Value.int .i64))]
theorem db{w0 w:World}{l:List Int}{n:Nat}{m h:Int}(E:Int)(h1:FC l n m h=E)(h2:E≠0)(hE:Ah w0 w):Ho w0 l n m h (.returned (.tuple #[.slice none 0 0, .int .i64 E])) w:=by
 refine ⟨none,0,?_,?_⟩
 ·rw [h1,if_neg h2]
 rw [if_neg (by rw [h1];exact h2),if_neg (by rw [h1];exact h2)];exact (St.of_ext hE).nil _ _
theorem ZP(w0:World)(ad:Option Addr)(n c:Nat)(l:List Int)(m h:Int)(hm64: -9223372036854775808≤m∧m≤9223372036854775807)(hn:n≤9223372036854775807)(hv:Sl w0 64 (.slice ad n c) n (l.map (Value.int .i64)))(hbad:FC l n m h≠0):
 Calls Tryz.prog 95 #[.slice ad n c, .int .i64 m, .int .i64 h] w0 (Ho w0 l n m h):=by
 have hl:l.length=n*64:=by have:=hv.1;simpa using this
 have hS:=St.start w0
 have HL:=AD hl
 clear hl
 have hEx:FC l n m h=EI (If n m h) l n:=by
  unfold FC EI If
  rw [show l.take (n*64)=l by rw [←HL.out];exact List.take_length]
  by_cases h1:1≤m∧m≤64∧1≤h∧h≤64
  ·simp only [if_pos h1]
   by_cases h2:n=Aa m h
   ·simp only [if_pos h2,if_true]
   simp only [if_neg h2];rfl
  simp only [if_neg h1];rfl
 have HEx:=AD hEx
 clear hEx
 obtain ⟨A,hA⟩:∃A:Int,(if 1≤m∧m≤64∧1≤h∧h≤64 then 0 else 1)=A:=⟨_,rfl⟩
 have HA:=AD hA
 have hA3:A=0∧If n m h=0∧(1≤m∧m≤64∧1≤h∧h≤64)∧n=Aa m h∨A=0∧If n m h=4∧(1≤m∧m≤64∧1≤h∧h≤64)∧n≠Aa m h∨A=1∧If n m h=1∧True∧True:=by
  unfold If
  by_cases h1:1≤m∧m≤64∧1≤h∧h≤64
  ·rw [if_pos h1] at hA
   rw [if_pos h1]
   by_cases h2:n=Aa m h
   ·rw [if_pos h2];exact .inl ⟨hA.symm,rfl,h1,h2⟩
   rw [if_neg h2];exact .inr (.inl ⟨hA.symm,rfl,h1,h2⟩)
  rw [if_neg h1] at hA
  rw [if_neg h1];exact .inr (.inr ⟨hA.symm,rfl,trivial,trivial⟩)
 clear hA
 have hK:∀(h1:1≤m∧m≤64∧1≤h∧h≤64),(m+7)/8*((h+7)/8)=((Aa m h:Nat):Int)∧Aa m h≤64:=fun h1=>by
  obtain ⟨kk0,kk1⟩:=Dv ((m+7)/8) ((h+7)/8) 8 8 (by omega) (by omega)
  have kk2:0≤((m+7)/8)*((h+7)/8):=Int.mul_nonneg (by omega) (by omega)
  unfold Aa;omega
 rcases hA3 with ⟨a1,a2,a3,a4⟩|⟨a1,a2,a3,a4⟩|⟨a1,a2,a3,a4⟩
 all_goals
  try (have hKK:=hK a3;obtain ⟨hK1,hK2⟩:=hKK)
  clear hK
  subst a1
  have H0:=AD a2
  clear a2
  go_enter Tryz.func95,Tryz.ntmps95
  repeat' (first
   | (refine Am 58 ?_);refine An AA Tryz.call58 (Dh _ m h) ?_;rintro e w ⟨rfl,hE⟩;replace hS:=hS.ext hE;clear hE;rw [HA.out];refine Ab ?_;go_step|(refine Am 59 ?_);refine An AA Tryz.call59 (JM _ m h (by omega) (by omega)) ?_;rintro e w ⟨rfl,hE⟩;replace hS:=hS.ext hE;clear hE;rw [hK1];refine Ab ?_;go_step|go_skip|refine X0 ?_|refine Kl ?_|refine I0 25 ?_ ?_<;>intro hB<;>(try exact AS)<;>go_step|refine go 21 ?_|refine YE ?_|refine LH ?_|refine gS 8 ?_;clear hS;intro g8 w hS|refine gU ?_;clear hS;intro w hS|refine bS ?_|refine AG ?_;go_step|fail)
  go_loopg [9,35] n (fun gk ev kv w=>∃(k:Nat) (E:Int),gk+k=n∧kv= .int .i64 k∧ev= .int .i64 E∧E=EI (If n m h) l k∧St w0 w [blk g8 [.int .i64 m, .int .i64 h]])
  case atStart=>exact ⟨0,_,rfl,rfl,rfl,by rw [H0.out];simp [EI,DD,By],hS.sub AV⟩
  case round=>
   clear hS
   obtain ⟨k,E,hk,rfl,rfl,hE,hS⟩:=hrel
   have HE:=AD hE
   clear hE
   by_cases hlt:k<n
   ·have ls:Ae (BY l 64 k) 64:=Br l 64 k n HL.out hlt
    have HN:=AD (Fc l k n HL.out hlt)
    by_cases hz:E=0
    ·subst hz
     cases hb:DD (BY l 64 k)
     all_goals
      have HB:=AD hb
      clear hb
      repeat' (first
       | (refine Am 76 ?_);refine An AA Tryz.call76 (BH _ _ (BY l 64 k) (hS.isl AM (by omega)) 128 #[] (fun n=>decide (n< -40000)||decide (40000<n)) Tryz.call128 (fun n=>OV n _)) ?_;rintro e w' ⟨rfl,rfl⟩;rw [MB,HB.out];refine Ab ?_;go_step|refine X0 ?_|refine GE ?_|refine I0 40 ?_ ?_<;>intro hB<;>(try exact AS)<;>go_step|refine X2 ?_|refine bR 37 ?_;intro b37 o37 hl37 hc37;go_step|refine gh ?_|refine X6 ?_|refine Xx ?_|refine Kk 11 ?_;clear hS;intro g11 w hS|refine Ft ?_;clear hS;intro w hS|refine AG ?_;go_step|fail)
      all_goals
       go_roundg (gk-1)
       case measure=>omega
       case rel=>
        exact ⟨k+1,_,by omega,by go_num,rfl,by first|exact Q3 HE.out HL.out hlt HB.out|exact S8 HE.out HL.out hlt HB.out,hS.sub AV⟩
    repeat' (first
     | go_big_skip|((with_reducible refine LJ ?_);(first|go_big_want|go_step);go_step)|((with_reducible refine Ak _ (.pick _ _ _) ?_);(refine BB rfl AA ?_;go_step))|((refine AQ 40 ?_);(refine DL _ (V.eql rfl rfl) AA (fun hB=>?_) (fun hB=>?_)<;>(try exact AS)<;>go_step))|((with_reducible refine Ak _ (.binOp .lss _ _ _ _) ?_);(refine Aq AA (V.lss rfl rfl) ?_;go_step))|((refine AQ 37 ?_);(refine NX (by with_reducible assumption) Tryz.underlying42 JJ rfl rfl BJ (by omega) AA ?_;intro b37 o37 hl37 hc37;go_step))|((with_reducible refine Ak _ (.binOp .add _ _ _ _) ?_);(refine Aq AA (V.addI rfl rfl (by omega)) ?_;go_step))|((with_reducible refine Ak _ (.load 26 _) ?_);(refine Ad ?_;apply EN hS 26 _ rfl _ _ rfl 64 (AN rfl) _;(case hl=>with_reducible assumption);(case hr=>with_reducible assumption);refine AB ?_;go_step))|((refine AQ 11 ?_);(refine Ad ?_;apply DJ (o:=⟨some 11,_,_,_,_,_⟩) hS 26 rfl (List.replicate 64 0) 64 List.length_replicate QC;clear hS;intro g11 w hS;refine AB ?_;go_step))|((with_reducible refine Ak _ (.store 26 _ _) ?_);(refine Ad ?_;apply EO hS 26 _ _ rfl _ rfl 64 (AN rfl) _ _;(case hp=>exact AM);(case hy=>rfl);(case hm=>(repeat (first|assumption|exact Ae.rep|apply Ae.set|((with_reducible show Ae (_::_) _);exact rfl))));(case hd=>exact rfl);clear hS;intro w hS))|(refine AG ?_;go_step)|fail)
    go_roundg (gk-1)
    case measure=>omega
    case rel=>exact ⟨k+1,_,by omega,by go_num,rfl,Q4 HE.out hz HL.out hlt,hS.sub AV⟩
   obtain rfl:k=n:=by omega
   have hE:=HE.out.trans HEx.out.symm
   clear HE
   have hz:E≠0:=by rw [hE];exact hbad
   have HJ:=AD hE
   clear hE
   repeat' (first
    | refine X0 ?_|refine X2 ?_|refine X5 ?_|refine AG ?_;go_step|fail)
   go_ret2
   exact db E HJ.out.symm hz hS.1
def Jz(q b:List Int):List Int:=Bc (Gp b) q
def JD(q l:List Int):Nat→List Int
 | 0=>[]
 | n+1=>JD q l n++Jz q (BY l 64 n)
def Oq(q b:List Int):List Int:=(Em (It b q)).map fun n=>min (max n (-40000)) 40000
def Ke(q l:List Int):Nat→List Int
 | 0=>[]
 | n+1=>Ke q l n++Oq q (BY l 64 n)
theorem JC(q b:List Int)(hq:q.length=64):(Jz q b).length=64:=Fx _ _ (B7 _ _) hq
theorem Ll(q b:List Int):(Oq q b).length=64:=by unfold Oq;rw [List.length_map];exact B7 _ _
theorem ER(q l:List Int)(hq:q.length=64):∀n,(JD q l n).length=n*64
 | 0=>by simp [JD]
 | n+1=>by rw [JD,List.length_append,ER q l hq n,JC q _ hq];omega
theorem Lm(q l:List Int):∀n,(Ke q l n).length=n*64
 | 0=>by simp [Ke]
 | n+1=>by rw [Ke,List.length_append,Lm q l n,Ll];omega
theorem M0{a b:List Int}{n k:Nat}(ha:a.length=n*64)(hk:k<n):BY (a++b) 64 k=BY a 64 k:=by
 unfold BY
 rw [List.drop_append_of_le_length (by omega),List.take_append_of_le_length (by rw [List.length_drop];omega)]
theorem Ra{a b:List Int}{n:Nat}(ha:a.length=n*64)(hb:b.length=64):BY (a++b) 64 n=b:=by
 unfold BY
 rw [←ha,List.drop_left,List.take_of_length_le (by omega)]
theorem JE(q l:List Int)(hq:q.length=64):∀n k,k<n→BY (JD q l n) 64 k=Jz q (BY l 64 k)
 | 0,k,h=>by omega
 | n+1,k,h=>by
   rw [JD]
   by_cases hk:k<n
   ·rw [M0 (ER q l hq n) hk];exact JE q l hq n k hk
   obtain rfl:k=n:=by omega
   exact Ra (ER q l hq k) (JC q _ hq)
theorem VR(q l:List Int):∀n k,k<n→BY (Ke q l n) 64 k=Oq q (BY l 64 k)
 | 0,k,h=>by omega
 | n+1,k,h=>by
   rw [Ke]
   by_cases hk:k<n
   ·rw [M0 (Lm q l n) hk];exact VR q l n k hk
   obtain rfl:k=n:=by omega
   exact Ra (Lm q l k) (Ll q _)
def IK(m h:Int):List (List Int)→Int
 | []=>0
 | l::L=>if Cw l l.length m h=0 then IK m h L else Cw l l.length m h
def F6(m h:Int)(L:List (List Int)):Int:=if 1≤m∧m≤64∧1≤h∧h≤64 then if L.length=1∨L.length=3 then IK m h L else 1 else 1
def z3(f:Int→Int→Int→Int)(a b c:List Int):List Int:=aW a.length fun i=>f (AF a i) (AF b i) (AF c i)
def C7(f1 f2 f3:Int→Int→Int→Int)(L:List (List Int)):List (List Int):=match L with
 | [a,b,c]=>[z3 f1 a b c,z3 f2 a b c,z3 f3 a b c]
 | _=>L
theorem Kc(f1 f2 f3:Int→Int→Int→Int)(L:List (List Int)):(C7 f1 f2 f3 L).length=L.length:=by
 unfold C7;split<;>rfl
def Gg(m h:Int)(q:List Int)(L:List (List Int)):Int:=if F6 m h L=0 then if Ej q then 0 else 1 else F6 m h L
def KR(m h:Int)(q:List Int):List (List Int)→List Int
 | []=>[]
 | l::L=>JD q (C8 l m h) (Aa m h)++KR m h q L
def FX(m h:Int)(q:List Int)(L:List (List Int)):List Int:=KR m h q (C7 Rq Ro Rp L)
theorem Ux(m h:Int)(q:List Int)(hq:q.length=64):∀L:List (List Int),(KR m h q L).length=L.length*Aa m h*64
 | []=>by simp [KR]
 | l::L=>by
   rw [KR,List.length_append,ER q _ hq,Ux m h q hq L,List.length_cons,Nat.add_mul,Nat.one_mul,Nat.add_mul]
   omega
theorem RQ(m h:Int)(q:List Int)(l:List Int):∀L:List (List Int),KR m h q (L++[l])=KR m h q L++JD q (C8 l m h) (Aa m h)
 | []=>by simp [KR]
 | x::L=>by rw [List.cons_append,KR,KR,RQ m h q l L,List.append_assoc]
def eF(m h:Int)(q l:List Int)(n:Nat):Nat→List (List Int)
 | 0=>[]
 | k+1=>eF m h q l n k++[C6 (Ke q ((l.drop (k*n*64)).take (n*64)) n) m h]
def WY(m h:Int)(q l:List Int)(n k:Nat):List (List Int):=C7 Fb Fa FZ (eF m h q l n k)
theorem U8(m h:Int)(q l:List Int)(n:Nat):∀k,(eF m h q l n k).length=k
 | 0=>rfl
 | k+1=>by rw [eF,List.length_append,U8 m h q l n k];rfl
end Go.Proofs.YtohacgmhmbijmaaGreatDoor
namespace Go.Proofs.YtohacgmhmbijmaaGreatDoor
attribute [local irreducible] Region.wanted
open Go.ChangeShapes Go.WideShapes Go.ChangeAt Go.RowKit
set_option linter.unusedVariables false
set_option maxRecDepth 100000
set_option maxHeartbeats 8000000
theorem Dw{H:Type}{enc:TypeId×Value→H}{P:Program}{W:World}{base:Nat}{t:TypeId}{v:Value}{d:DataW H}{p:List MemPlace}(ht:P.underlying t=some (.int .i64))
 (ho:Value.okWide P W .any base t v) (h:DataW.Trod enc P W 0 (fun _=>true) true t v d p):∃n:Int,v= .int .i64 n∧ -9223372036854775808≤n∧n≤9223372036854775807:=by
 obtain ⟨n,rfl,rfl,rfl,wn⟩:=open_int ht ho h
 refine ⟨n,rfl,?_⟩
 have h:=wn
 simp only [Lit.wf,Bool.and_eq_true,decide_eq_true_eq] at h
 have h1:IntKind.i64.min= -9223372036854775808:=rfl
 have h2:IntKind.i64.max=9223372036854775807:=rfl
 omega
theorem dr{P:Program}{W:World}{base:Nat}{u:TypeId}{v:Value}(hu:P.underlying u=some (.int .i64))(h:Cell.okWide P W .any base u v):
 ∃n:Int,v= .int .i64 n∧ -9223372036854775808≤n∧n≤9223372036854775807:=by
 unfold Cell.okWide at h
 rw [hu] at h
 dsimp only at h
 unfold Cell.ok at h
 rw [hu] at h
 cases v<;>simp only at h
 case int k n=>
  obtain ⟨rfl,h⟩:=h
  refine ⟨n,rfl,?_⟩
  simp only [IntKind.has] at h
  have h1:IntKind.i64.min= -9223372036854775808:=rfl
  have h2:IntKind.i64.max=9223372036854775807:=rfl
  simp only [h1,h2] at h
  simpa using h
theorem iV{P:Program}{W:World}{base:Nat}{t:TypeId}{v:Value}{ts:List TypeId}(hd:(match P.underlying t with|some (.struct _)|some (.array _ _)=>true|_=>false)=true)
 (hts:P.cellTypes P.depth t=some ts) (hall:∀u∈ts,P.underlying u=some (.int .i64)) (ho:Value.okWide P W .any base t v):
 ∃l:List Int,l.length=P.cellsOf t∧v= .agg (iv l)∧∀i,i<l.length→ -9223372036854775808≤AF l i∧AF l i≤9223372036854775807:=by
 have h':∃cs,v= .agg cs∧cs.size=P.cellsOf t∧Row.okWide P W .any base t cs:=by
  unfold Value.okWide at ho
  split at ho
  ·exact ho
  ·exact ho
  rename_i h1 h2
  split at hd
  ·rename_i x h3;exact absurd h3 (h1 x)
  ·rename_i x y h3;exact absurd h3 (h2 x y)
  cases hd
 obtain ⟨cs,rfl,hsz,ts',hts',_,hcells⟩:=h'
 rw [hts] at hts'
 cases hts'
 have key:∀i,i<cs.size→∃n:Int,cs[i]? =some (.int .i64 n)∧ -9223372036854775808≤n∧n≤9223372036854775807:=by
  intro i hi
  obtain ⟨u,hu,hc⟩:=hcells i cs[i] (by simp [hi])
  obtain ⟨n,hn,hb⟩:=dr (hall u (List.mem_of_getElem? hu)) hc
  exact ⟨n,by simp [hi,hn],hb⟩
 refine ⟨(List.range cs.size).map fun i=>intOf (cs[i]?.getD undef),by simp [hsz],?_,?_⟩
 ·congr 1
  apply Array.ext_getElem?
  intro i
  by_cases hi:i<cs.size
  ·obtain ⟨n,hn,_⟩:=key i hi
   simp only [iv,List.map_map,List.getElem?_toArray,List.getElem?_map,List.getElem?_range hi,Option.map_some,Function.comp]
   rw [hn];rfl
  simp [iv,List.getElem?_eq_none (show (List.range cs.size).length≤i by simp;omega)]
  omega
 intro i hi
 have hi':i<cs.size:=by simpa using hi
 obtain ⟨n,hn,hb⟩:=key i hi'
 have e:AF ((List.range cs.size).map fun i=>intOf (cs[i]?.getD undef)) i=n:=by
  simp only [AF,List.getD,List.getElem?_map,List.getElem?_range hi',Option.map_some,Option.getD_some]
  rw [hn];rfl
 rw [e];exact hb
end Go.Proofs.YtohacgmhmbijmaaGreatDoor
namespace Go.Proofs.YtohacgmhmbijmaaGreatDoor
attribute [local irreducible] Region.wanted
open Go.ChangeShapes Go.WideShapes Go.ChangeAt Go.RowKit Go.Deep
set_option linter.unusedVariables false
set_option maxRecDepth 100000
set_option maxHeartbeats 8000000
def GI(P:Program)(k:IntKind):Nat→TypeId→Bool
 | 0,_=>false
 | d+1,t=>match P.underlying t with
   | some (.int k')=>decide (k'=k)&&P.cellsOf t==1
   | some (.array n e)=>GI P k d e&&P.cellsOf t==n*P.cellsOf e
   | some (.struct fs)=>fs.toList.all (fun f=>GI P k d f.type)&&(List.range (P.cellsOf t)).all fun j=>fs.toList.any fun f=>decide (f.offset≤j)&&decide (j<f.offset+P.cellsOf f.type)
   | _=>false
theorem XM{H:Type}{enc:TypeId×Value→H}{P:Program}{W:World}{base:Nat}{sp:Nat→Bool}{held:Bool}(k:IntKind):∀(d:Nat)(t:TypeId),GI P k d t=true→∀(fuel:Nat)(cs:List Value)(x:DataW H×List MemPlace),
 DataW.trod enc P W base sp held fuel t cs=some x→cs.length=P.cellsOf t∧∀j,j<cs.length→∃n,cs[j]? =some (.int k n)∧(Lit.int k n).wf=true:=by
 intro d
 induction d with
 | zero=>intro t h;simp [GI] at h
 | succ d ih=>
   intro t ht fuel cs x h
   unfold GI at ht
   split at ht
   ·rename_i k' hu
    simp only [Bool.and_eq_true,decide_eq_true_eq,beq_iff_eq] at ht
    obtain ⟨rfl,hc⟩:=ht
    obtain ⟨n,rfl,_,hw⟩:=DataW.trod_int hu h
    refine ⟨by simp [hc],fun j hj=>?_⟩
    obtain rfl:j=0:=by simp at hj;omega
    exact ⟨n,rfl,hw⟩
   ·rename_i n e hu
    simp only [Bool.and_eq_true,beq_iff_eq] at ht
    obtain ⟨he,hc⟩:=ht
    obtain ⟨xs,m,_,_,hl,hxl,hf⟩:=DataW.trod_array hu h
    refine ⟨hl,fun j hj=>?_⟩
    rw [hl,hc] at hj
    have hcp:0<P.cellsOf e:=by
     rcases Nat.eq_zero_or_pos (P.cellsOf e) with h0|h0
     ·rw [h0] at hj;simp at hj
     exact h0
    have hjn:j/P.cellsOf e<n:=by rw [Nat.div_lt_iff_lt_mul hcp];exact hj
    have hfe:=hf (j/P.cellsOf e) hjn
    rw [List.getElem?_eq_getElem (by omega)] at hfe
    obtain ⟨hl2,hv⟩:=ih e he m _ _ hfe
    have hm:=Nat.mod_lt j hcp
    obtain ⟨v,hv1,hv2⟩:=hv (j%P.cellsOf e) (by rw [hl2];exact hm)
    refine ⟨v,?_,hv2⟩
    rw [List.getElem?_take,if_pos hm,List.getElem?_drop] at hv1
    rwa [show j/P.cellsOf e*P.cellsOf e+j%P.cellsOf e=j by rw [Nat.mul_comm];exact Nat.div_add_mod j _] at hv1
   ·rename_i fs hu
    simp only [Bool.and_eq_true] at ht
    obtain ⟨he,hc⟩:=ht
    obtain ⟨xs,m,_,_,hl,hxl,hf⟩:=DataW.trod_struct hu h
    refine ⟨hl,fun j hj=>?_⟩
    rw [List.all_eq_true] at he hc
    have h1:=hc j (List.mem_range.2 (by omega))
    rw [List.any_eq_true] at h1
    obtain ⟨f,hfm,h1⟩:=h1
    simp only [Bool.and_eq_true,decide_eq_true_eq] at h1
    obtain ⟨i,hi,hfi⟩:=List.getElem_of_mem hfm
    have hi':i<fs.size:=by simpa using hi
    have hfe:=hf i f (by rw [Array.getElem?_eq_getElem hi'];simpa using hfi)
    rw [List.getElem?_eq_getElem (by omega)] at hfe
    obtain ⟨hl2,hv⟩:=ih f.type (he f hfm) m _ _ hfe
    obtain ⟨v,hv1,hv2⟩:=hv (j-f.offset) (by rw [hl2];omega)
    refine ⟨v,?_,hv2⟩
    rw [List.getElem?_take,if_pos (by omega),List.getElem?_drop,show f.offset+(j-f.offset)=j by omega] at hv1
    exact hv1
   cases ht
theorem Mm{H:Type}{enc:TypeId×Value→H}{P:Program}{W:World}{t e:TypeId}{v:Value}{x:DataW H×List MemPlace}{fuel:Nat}(k:IntKind)(ht:P.underlying t=some (.slice e))(dp:Nat)(he:GI P k dp e=true)
 (s:Nat) (hs:P.cellsOf e=s) (hs0:0<s) (h:DataW.trod enc P W 0 (fun _=>true) true fuel t [v]=some x):
 ∃(n:Nat) (ns:List Int),ns.length=n*s∧Sl W s v n (ns.map (Value.int k))∧∀i,i<ns.length→(Lit.int k (AF ns i)).wf=true:=by
 rcases open_slice ht h with ⟨h0,_⟩|⟨a,len,cap,m,n,D,Pl,hcs,hb,hl,hm,hmm,_,hx⟩
 ·obtain rfl:v= .slice none 0 0:=by simpa using h0
  exact ⟨0,[],by simp,Sl.nil W s,fun i hi=>by simp at hi⟩
 obtain rfl:v= .slice (some a) len cap:=by simpa using hcs
 have hmc:m=cap:=by simpa using hmm
 subst hmc
 have each:∀i,i<len*s→∃q:Int,W.cell? (a.add i)=some (.int k q)∧(Lit.int k q).wf=true:=by
  intro i hi
  have hsp:0<s:=by
   rcases Nat.eq_zero_or_pos s with h0|h0
   ·rw [h0] at hi;simp at hi
   exact h0
  have hil:i/s<len:=by rw [Nat.div_lt_iff_lt_mul hsp];exact hi
  obtain ⟨cs',h1,h2⟩:=hx (i/s) (by omega)
  rw [hs] at h1
  obtain ⟨hl3,hv3⟩:=XM k dp e he _ _ _ h2
  obtain ⟨_,hl4,hc4⟩:=World.cells?_some h1
  have hm3:=Nat.mod_lt i hsp
  obtain ⟨q,hq1,hq2⟩:=hv3 (i%s) (by rw [hl4];exact hm3)
  refine ⟨q,?_,hq2⟩
  rw [←hq1,←hc4 (i%s) hm3,Go.Deep.add_add,show i/s*s+i%s=i by rw [Nat.mul_comm];exact Nat.div_add_mod i _]
 obtain ⟨f,hf⟩:=choose_lt each
 refine ⟨len,(List.range (len*s)).map f,by simp,⟨by simp,some a,m,rfl,hl,hm,?_⟩,?_⟩
 ·rcases Nat.eq_zero_or_pos (len*s) with h0|h0
  ·rcases Nat.eq_zero_or_pos len with h1|h1
   ·exact .inl h1
   exact absurd h0 (by have:=Nat.mul_pos h1 hs0;omega)
  refine .inr ?_
  have hc0:=(hf 0 h0).1
  have hspot:a.spot=none:=by
   rw [show a.add 0=a from rfl] at hc0
   unfold World.cell? at hc0
   split at hc0
   ·split at hc0
    ·cases hc0
    rename_i hh;simpa using hh
   cases hc0
  refine ⟨a.block,a.off,by cases a;simp at hspot;simp [hspot],fun i hi=>?_⟩
  have hci:=(hf i hi).1
  have haddr:a.add i=⟨a.block,a.off+i,none⟩:=by
   unfold Addr.add
   split
   ·rename_i h0;subst h0;cases a;simp at hspot;simp [hspot]
   rfl
  rw [haddr] at hci
  rw [hci]
  simp [hi]
 intro i hi
 have hi':i<len*s:=by simpa using hi
 have:=(hf i hi').2
 simpa [AF,List.getD,hi'] using this
theorem JU{H:Type}{enc:TypeId×Value→H}{P:Program}{W:World}{t e:TypeId}{v:Value}{d:DataW H}{p:List MemPlace}(k:IntKind)(ht:P.underlying t=some (.slice e))(dp:Nat)(he:GI P k dp e=true)
 (s:Nat) (hs:P.cellsOf e=s) (hs0:0<s) {base:Nat} (ho:Value.okWide P W .any base t v) (h:DataW.Trod enc P W 0 (fun _=>true) true t v d p):
 ∃(n:Nat) (ns:List Int),ns.length=n*s∧Sl W s v n (ns.map (Value.int k))∧∀i,i<ns.length→(Lit.int k (AF ns i)).wf=true:=by
 obtain ⟨fuel,h⟩:=h
 have hvc:v.cells.toList=[v]:=by
  unfold Value.okWide at ho
  rw [ht] at ho
  dsimp only at ho
  unfold Cell.okWide at ho
  rw [ht] at ho
  dsimp only at ho
  unfold Cell.ok at ho
  rw [ht] at ho
  cases v<;>first|rfl|exact absurd ho (by simp)
 rw [hvc] at h
 exact Mm k ht dp he s hs hs0 h
theorem iT{P:Program}{W:World}{base:Nat}{t:TypeId}{v:Value}(hd:(match P.underlying t with|some (.struct _)|some (.array _ _)=>true|_=>false)=true)(ho:Value.okWide P W .any base t v):∃cs,v= .agg cs:=by
 unfold Value.okWide at ho
 split at ho
 ·obtain ⟨cs,h,_⟩:=ho;exact ⟨cs,h⟩
 ·obtain ⟨cs,h,_⟩:=ho;exact ⟨cs,h⟩
 rename_i h1 h2
 split at hd
 ·rename_i x h3;exact absurd h3 (h1 x)
 ·rename_i x y h3;exact absurd h3 (h2 x y)
 cases hd
theorem NP(n:Int):(Lit.int .i64 n).wf=true↔ -9223372036854775808≤n∧n≤9223372036854775807:=by
 simp only [Lit.wf,Bool.and_eq_true,decide_eq_true_eq]
 have h1:IntKind.i64.min= -9223372036854775808:=rfl
 have h2:IntKind.i64.max=9223372036854775807:=rfl
 rw [h1,h2]
end Go.Proofs.YtohacgmhmbijmaaGreatDoor
namespace Go.Proofs.YtohacgmhmbijmaaGreatDoor
attribute [local irreducible] Region.wanted
set_option linter.unusedVariables false
set_option maxRecDepth 100000
set_option maxHeartbeats 8000000
def Fr(l:List Bool):Nat:=l.foldl (fun a b=>2*a+b.toNat) 0
theorem Ze(l:List Bool):∀a,l.foldl (fun a b=>2*a+b.toNat) a=a*2^l.length+Fr l:=by
 induction l with
 | nil=>intro a;simp [Fr]
 | cons b l ih=>
   intro a
   simp only [Fr,List.foldl_cons,List.length_cons]
   rw [ih,ih (2*0+b.toNat),Nat.pow_succ,Nat.add_mul,Nat.mul_assoc,Nat.mul_zero,Nat.zero_add]
   have e:a*(2^l.length*2)=2*(a*2^l.length):=by rw [←Nat.mul_assoc,Nat.mul_comm]
   rw [e]
   omega
theorem EK(xs ys:List Bool):Fr (xs++ys)=Fr xs*2^ys.length+Fr ys:=by
 unfold Fr
 rw [List.foldl_append]
 exact Ze ys _
theorem JS(xs:List Bool)(b:Bool):Fr (xs++[b])=2*Fr xs+b.toNat:=by
 rw [EK];simp [Fr,Nat.mul_comm]
theorem Il(l:List Bool):Fr l<2^l.length:=by
 induction l with
 | nil=>simp [Fr]
 | cons b l ih=>
   have h:=EK [b] l
   simp only [List.singleton_append] at h
   rw [h,List.length_cons,Nat.pow_succ]
   have:Fr [b]≤1:=by cases b<;>simp [Fr]
   have h2:Fr [b]*2^l.length≤1*2^l.length:=Nat.mul_le_mul_right _ this
   omega
def Ax:Nat→Nat→List Bool
 | 0,_=>[]
 | w+1,v=>Ax w (v/2)++[v%2==1]
theorem Av(w:Nat):∀v,(Ax w v).length=w:=by
 induction w with
 | zero=>intro v;rfl
 | succ w ih=>intro v;simp [Ax,ih]
theorem Mi(w:Nat):∀v,Fr (Ax w v)=v%2^w:=by
 induction w with
 | zero=>intro v;simp [Ax,Fr,Nat.mod_one]
 | succ w ih=>
   intro v
   simp only [Ax,JS,ih]
   have h1:(v%2==1).toNat=v%2:=by
    rcases Nat.mod_two_eq_zero_or_one v with h|h<;>simp [h]
   rw [h1,Nat.pow_succ,Nat.mul_comm (2^w) 2,Nat.mod_mul]
   omega
theorem EV(w v:Nat)(h:v<2^w):Fr (Ax w v)=v:=by rw [Mi,Nat.mod_eq_of_lt h]
theorem GJ(l:List Bool):Ax l.length (Fr l)=l:=by
 generalize hn:l.length=n
 induction n generalizing l with
 | zero=>have:=List.eq_nil_of_length_eq_zero hn;subst this;rfl
 | succ n ih=>
   obtain ⟨l,b,rfl⟩:∃m b,l=m++[b]:=by
    have hne:l≠[]:=by intro h;subst h;simp at hn
    exact ⟨l.dropLast,l.getLast hne,(List.dropLast_concat_getLast hne).symm⟩
   rw [JS,Ax]
   have h1:(2*Fr l+b.toNat)/2=Fr l:=by cases b<;>simp<;>omega
   have h2:((2*Fr l+b.toNat)%2==1)=b:=by cases b<;>simp<;>omega
   rw [h1,h2,ih l (by simpa using hn)]
theorem dj(xs ys:List Bool)(hl:xs.length=ys.length)(h:Fr xs=Fr ys):xs=ys:=by
 rw [←GJ xs,←GJ ys,hl,h]
theorem Mj(l:List Bool)(i n:Nat)(h:i+n≤l.length):Fr ((l.drop i).take n)=Fr l/2^(l.length-i-n)%2^n:=by
 have e1:l=l.take i++((l.drop i).take n++l.drop (i+n)):=by
  rw [←List.drop_drop,List.take_append_drop,List.take_append_drop]
 have hl3:(l.drop (i+n)).length=l.length-i-n:=by simp;omega
 have hl2:((l.drop i).take n).length=n:=by simp;omega
 have hlt:=Il (l.drop (i+n))
 have hlt2:=Il ((l.drop i).take n)
 rw [hl3] at hlt
 rw [hl2] at hlt2
 conv=>rhs;rw [e1]
 have hl0:(l.take i++((l.drop i).take n++l.drop (i+n))).length=l.length:=by rw [←e1]
 rw [hl0,EK,EK,List.length_append,hl2,hl3]
 generalize Fr (l.drop (i+n))=z at*
 generalize Fr ((l.drop i).take n)=y at*
 generalize Fr (l.take i)=x at*
 generalize l.length-i-n=m at*
 have hp:0<2^m:=Nat.two_pow_pos _
 rw [Nat.pow_add,←Nat.mul_assoc,←Nat.add_assoc,←Nat.add_mul,Nat.add_comm,Nat.add_mul_div_right _ _ hp,Nat.div_eq_of_lt hlt,Nat.zero_add,Nat.add_comm,Nat.add_mul_mod_self_right,Nat.mod_eq_of_lt hlt2]
def Ch:Nat→List Bool→List Nat
 | 0,_=>[]
 | k+1,bs=>Fr (bs.take 8)::Ch k (bs.drop 8)
theorem Wu(k:Nat):∀bs,(Ch k bs).length=k:=by
 induction k with
 | zero=>intro;rfl
 | succ k ih=>intro;simp [Ch,ih]
theorem TK(k:Nat):∀bs:List Bool,Ch (k+1) bs=Ch k bs++[Fr ((bs.drop (8*k)).take 8)]:=by
 induction k with
 | zero=>intro bs;simp [Ch]
 | succ k ih=>
   intro bs
   rw [Ch,ih,Ch,List.cons_append,List.drop_drop]
   congr 3
   rw [show 8+8*k=8*(k+1) by omega]
theorem PX(k:Nat):∀(bs cs:List Bool),8*k≤bs.length→Ch k (bs++cs)=Ch k bs:=by
 induction k with
 | zero=>intros;rfl
 | succ k ih=>
   intro bs cs h
   rw [Ch,Ch,List.take_append_of_le_length (by omega),List.drop_append_of_le_length (by omega),ih _ _ (by simp;omega)]
theorem Zm(k:Nat):∀bs,∀x∈Ch k bs,x<256:=by
 induction k with
 | zero=>intro bs x hx;simp [Ch] at hx
 | succ k ih=>
   intro bs x hx
   rw [Ch,List.mem_cons] at hx
   rcases hx with rfl|hx
   ·have h:=Il (bs.take 8)
    have h2:(bs.take 8).length≤8:=by simp;omega
    have h3:2^(bs.take 8).length≤2^8:=Nat.pow_le_pow_right (by omega) h2
    omega
   exact ih _ x hx
def BM(l:List Nat):List Bool:=l.flatMap (Ax 8)
theorem Co(l:List Nat):(BM l).length=8*l.length:=by
 induction l with
 | nil=>rfl
 | cons x l ih=>simp [BM,Av] at*;omega
theorem P5(k:Nat):∀bs:List Bool,8*k≤bs.length→BM (Ch k bs)=bs.take (8*k):=by
 induction k with
 | zero=>intro bs _;rfl
 | succ k ih=>
   intro bs h
   have h8:(bs.take 8).length=8:=by simp;omega
   have e:Ax 8 (Fr (bs.take 8))=bs.take 8:=by
    have:=GJ (bs.take 8)
    rwa [h8] at this
   simp only [Ch,BM,List.flatMap_cons] at*
   rw [e,ih _ (by simp;omega),show 8*(k+1)=8+8*k by omega,List.take_add]
theorem JV(l:List Nat)(h:∀x∈l,x<256):Ch l.length (BM l)=l:=by
 induction l with
 | nil=>rfl
 | cons x l ih=>
   have hx:=h x (by simp)
   simp only [BM,List.flatMap_cons,List.length_cons,Ch] at*
   rw [List.take_left' (Av 8 x),List.drop_left' (Av 8 x),Mi,ih (fun y hy=>h y (by simp [hy])),Nat.mod_eq_of_lt (by omega)]
def Bq(bs:List Bool):List Bool:=List.replicate ((8-bs.length%8)%8) true
def bytesOf(bs:List Bool):List Nat:=Ch ((bs.length+7)/8) (bs++Bq bs)
theorem G7(bs:List Bool):(bs++Bq bs).length=8*((bs.length+7)/8):=by
 simp [Bq];omega
theorem Gx(bs:List Bool):(bytesOf bs).length=(bs.length+7)/8:=Wu _ _
theorem Hl(bs:List Bool):BM (bytesOf bs)=bs++Bq bs:=by
 rw [bytesOf,P5 _ _ (by rw [G7];exact Nat.le_refl _),←G7,List.take_length]
theorem E8(bs:List Bool):∀x∈bytesOf bs,x<256:=Zm _ _
theorem MF(w v i:Nat)(h:i<w):(Ax w v)[i]? =some (v/2^(w-1-i)%2==1):=by
 induction w generalizing v i with
 | zero=>omega
 | succ w ih=>
   rw [Ax]
   by_cases hi:i<w
   ·rw [List.getElem?_append_left (by rw [Av];exact hi),ih _ _ hi,Nat.div_div_eq_div_mul,←Nat.pow_succ']
    rw [show (w-1-i).succ=w+1-1-i by omega]
   have:i=w:=by omega
   subst this
   rw [List.getElem?_append_right (by rw [Av];exact Nat.le_refl _),Av]
   simp
theorem Ti(l:List Nat)(i:Nat)(h:i<8*l.length):(BM l)[i]? =some (l.getD (i/8) 0/2^(7-i%8)%2==1):=by
 induction l generalizing i with
 | nil=>simp at h
 | cons x l ih=>
   simp only [BM,List.flatMap_cons] at*
   by_cases hi:i<8
   ·rw [List.getElem?_append_left (by rw [Av];exact hi),MF 8 x i hi]
    have h1:i/8=0:=by omega
    have h2:i%8=i:=by omega
    simp [h1,h2]
   rw [List.getElem?_append_right (by rw [Av];omega),Av,ih (i-8) (by simp at h;omega)]
   have h1:i/8=(i-8)/8+1:=by omega
   have h2:(i-8)%8=i%8:=by omega
   rw [h1,h2,List.getD_cons_succ]
def nx(c:Nat→Nat):Nat→Nat
 | 0=>0
 | k+1=>2*nx c k+c k
def Hs(c:Nat→Nat):Nat→List (Nat×Nat)
 | 0=>[]
 | k+1=>Hs c k++(List.range (c k)).map fun j=>(k+1,2*nx c k+j)
def sm(c:Nat→Nat):Nat→Nat
 | 0=>0
 | k+1=>sm c k+c k
theorem GL(c:Nat→Nat):∀k,(Hs c k).length=sm c k
 | 0=>rfl
 | k+1=>by simp [Hs,sm,GL c k]
def be(x:Nat×Nat):Nat:=x.2*2^(16-x.1)
def ec(x:Nat×Nat):Nat:=(x.2+1)*2^(16-x.1)
inductive Gi:Nat→List (Nat×Nat)→Nat→Prop
 | nil {a:Nat}:Gi a [] a
 | cons {x:Nat×Nat} {l:List (Nat×Nat)} {b:Nat} (h:Gi (ec x) l b):Gi (be x) (x::l) b
theorem Gi.append{a b c:Nat}{l m:List (Nat×Nat)}(h:Gi a l b)(k:Gi b m c):Gi a (l++m) c:=by
 induction h with
 | nil=>exact k
 | cons h ih=>exact .cons (ih k)
theorem Rn(k s:Nat):∀n a,Gi ((s+a)*2^(16-(k+1))) ((List.range' a n).map fun j=>(k+1,s+j)) ((s+a+n)*2^(16-(k+1)))
 | 0,a=>by simpa using Gi.nil
 | n+1,a=>by
   have h:=Rn k s n (a+1)
   simp only [List.range'_succ,List.map_cons]
   refine Gi.cons (x:=(k+1,s+a)) ?_
   rw [show s+a+(n+1)=s+(a+1)+n by omega]
   exact h
theorem NJ(c:Nat→Nat):∀k,k≤16→Gi 0 (Hs c k) (nx c k*2^(16-k))
 | 0,_=>by simpa [Hs,nx] using Gi.nil
 | k+1,h=>by
   have h1:=NJ c k (by omega)
   have h2:=Rn k (2*nx c k) (c k) 0
   have e:nx c k*2^(16-k)=(2*nx c k+0)*2^(16-(k+1)):=by
    rw [show 16-k=(16-(k+1))+1 by omega,Nat.pow_succ,Nat.add_zero (2*_),Nat.mul_comm 2 (nx c k),Nat.mul_assoc (nx c k) 2,Nat.mul_comm 2]
   rw [e] at h1
   rw [Hs,nx,List.range_eq_range']
   exact h1.append h2
theorem Gi.le{a b:Nat}{l:List (Nat×Nat)}(h:Gi a l b):a≤b:=by
 induction h with
 | nil=>omega
 | @cons x l b h ih=>
   have:be x≤ec x:=Nat.mul_le_mul_right _ (by omega)
   omega
theorem Gi.mem{a b:Nat}{l:List (Nat×Nat)}(h:Gi a l b):∀x∈l,a≤be x∧ec x≤b:=by
 induction h with
 | nil=>intro x hx;cases hx
 | @cons y l b h ih=>
   intro x hx
   rcases List.mem_cons.1 hx with rfl|hx
   ·exact ⟨Nat.le_refl _,h.le⟩
   have h1:=ih x hx
   have:be y≤ec y:=Nat.mul_le_mul_right _ (by omega)
   omega
theorem Gi.pair{a b:Nat}{l:List (Nat×Nat)}(h:Gi a l b):l.Pairwise fun x y=>ec x≤be y:=by
 induction h with
 | nil=>exact List.Pairwise.nil
 | @cons x l b h ih=>exact List.Pairwise.cons (fun y hy=>(h.mem y hy).1) ih
theorem MJ(c:Nat→Nat):∀k x,x∈Hs c k→1≤x.1∧x.1≤k
 | 0,x,h=>by cases h
 | k+1,x,h=>by
   rcases List.mem_append.1 h with h|h
   ·have:=MJ c k x h;omega
   obtain ⟨j,_,rfl⟩:=List.mem_map.1 h
   exact ⟨by simp,by simp⟩
def Od(c:Nat→Nat):Prop:=∀k,k<16→nx c (k+1)<2^(k+1)
theorem Zf(c:Nat→Nat)(k:Nat):∀d,nx c k*2^d≤nx c (k+d)
 | 0=>by simp
 | d+1=>by
   have:=Zf c k d
   rw [←Nat.add_assoc,nx,Nat.pow_succ,←Nat.mul_assoc];omega
theorem H4(c:Nat→Nat):Od c↔nx c 16<65536:=by
 constructor
 ·intro h;exact h 15 (by omega)
 intro h k hk
 have h1:=Zf c (k+1) (15-k)
 rw [show k+1+(15-k)=16 by omega] at h1
 have h2:nx c (k+1)*2^(15-k)<2^(k+1)*2^(15-k):=by
  rw [←Nat.pow_add,show k+1+(15-k)=16 by omega];exact Nat.lt_of_le_of_lt h1 h
 exact Nat.lt_of_mul_lt_mul_right h2
theorem iC(c:Nat→Nat)(h:Od c)(x:Nat×Nat)(hx:x∈Hs c 16):x.2+1<2^x.1∧1≤x.1∧x.1≤16:=by
 have h1:=MJ c 16 x hx
 have h2:=((NJ c 16 (by omega)).mem x hx).2
 have h3:=(H4 c).1 h
 refine ⟨?_,h1.1,h1.2⟩
 have h4:(x.2+1)*2^(16-x.1)<2^x.1*2^(16-x.1):=by
  rw [←Nat.pow_add,show x.1+(16-x.1)=16 by omega]
  have:ec x=(x.2+1)*2^(16-x.1):=rfl
  simp at h2;omega
 exact Nat.lt_of_mul_lt_mul_right h4
theorem SW(x y:Nat×Nat)(hx:x.1≤y.1)(hy:y.1≤16)(h:y.2/2^(y.1-x.1)=x.2):be x≤be y∧be y<ec x:=by
 have hp:0<2^(y.1-x.1):=Nat.two_pow_pos _
 have hq:0<2^(16-y.1):=Nat.two_pow_pos _
 have e:2^(16-x.1)=2^(y.1-x.1)*2^(16-y.1):=by rw [←Nat.pow_add];congr 1;omega
 have h1:x.2*2^(y.1-x.1)≤y.2:=by rw [←h];exact Nat.div_mul_le_self _ _
 have h2:y.2<(x.2+1)*2^(y.1-x.1):=by rw [←h,Nat.mul_comm];exact Nat.lt_mul_div_succ _ hp
 unfold be ec
 rw [e,←Nat.mul_assoc,←Nat.mul_assoc]
 exact ⟨Nat.mul_le_mul_right _ h1,Nat.mul_lt_mul_of_pos_right h2 hq⟩
theorem V9(c:Nat→Nat)(i j:Nat)(x y:Nat×Nat)(hi:(Hs c 16)[i]? =some x)(hj:(Hs c 16)[j]? =some y)(hne:i≠j)(hl:x.1≤y.1):¬y.2/2^(y.1-x.1)=x.2:=by
 intro h
 have hp:=(NJ c 16 (by omega)).pair
 have hy:=MJ c 16 y (List.mem_of_getElem? hj)
 obtain ⟨h1,h2⟩:=SW x y hl hy.2 h
 rw [List.pairwise_iff_getElem] at hp
 obtain ⟨hi1,hi2⟩:=List.getElem?_eq_some_iff.1 hi
 obtain ⟨hj1,hj2⟩:=List.getElem?_eq_some_iff.1 hj
 have hw:∀z:Nat×Nat,be z<ec z:=fun z=>Nat.mul_lt_mul_of_pos_right (by omega) (Nat.two_pow_pos _)
 rcases Nat.lt_or_gt_of_ne hne with g|g
 ·have:=hp i j hi1 hj1 g
  rw [hi2,hj2] at this;omega
 have:=hp j i hj1 hi1 g
 rw [hi2,hj2] at this
 have:=hw y
 omega
def cc(C:List Int)(k:Nat):Nat:=(AF C k).toNat
def K4(C:List Int):Bool:=(List.range 16).all (fun k=>decide (0≤AF C k∧AF C k≤256))&&decide (sm (cc C) 16≤256)
theorem Ew(C:List Int):K4 C=true↔(∀k,k<16→0≤AF C k∧AF C k≤256)∧sm (cc C) 16≤256:=by
 simp [K4]
def RU(c:Nat→Nat):Bool:=(List.range 16).all fun k=>decide (nx c (k+1)<2^(k+1))
theorem H3(c:Nat→Nat):RU c=true↔Od c:=by simp [RU,Od]
def Rj(S:List Int):Bool:=S.all fun s=>decide (0≤s)&&decide (s<256)
def A5(C S:List Int):Int:=
 if K4 C=true∧sm (cc C) 16=S.length then if Rj S then if S.Nodup∧RU (cc C)=true then 0 else 4 else 1 else 4
theorem CM{C S:List Int}(h:A5 C S=0):(∀k,k<16→0≤AF C k∧AF C k≤256)∧sm (cc C) 16=S.length∧S.length≤256∧(∀s∈S,0≤s∧s<256)∧S.Nodup∧Od (cc C):=by
 unfold A5 at h
 split at h
 ·rename_i h1
  split at h
  ·rename_i h2
   split at h
   ·rename_i h3
    obtain ⟨h4,h5⟩:=(Ew C).1 h1.1
    refine ⟨h4,h1.2,by omega,?_,h3.1,(H3 _).1 h3.2⟩
    intro s hs
    have:=List.all_eq_true.1 h2 s hs
    simpa using this
   cases h
  cases h
 cases h
theorem eS{C S:List Int}(h1:K4 C=true)(h2:sm (cc C) 16=S.length)(h3:∀s∈S,0≤s∧s<256)(h4:S.Nodup)(h5:Od (cc C)):A5 C S=0:=by
 unfold A5
 rw [if_pos ⟨h1,h2⟩,if_pos,if_pos ⟨h4,(H3 _).2 h5⟩]
 rw [Rj,List.all_eq_true];intro s hs;simpa using h3 s hs
def CE(C S:List Int):List (Int×Nat×Nat):=S.zip (Hs (cc C) 16)
def VV(l:List (Int×Nat×Nat)):List Int:=l.flatMap fun x=>[x.1,(x.2.1:Int),(x.2.2:Int)]
theorem ay(l:List (Int×Nat×Nat))(x:Int×Nat×Nat):VV (l++[x])=VV l++[x.1,(x.2.1:Int),(x.2.2:Int)]:=by simp [VV]
theorem VW:∀(l:List (Int×Nat×Nat))(k:Nat)(x:Int×Nat×Nat),l[k]? =some x→((VV l).drop (k*3)).take 3=[x.1,(x.2.1:Int),(x.2.2:Int)]
 | [],k,x,h=>by simp at h
 | y::l,0,x,h=>by
   obtain rfl:y=x:=by simpa using h
   simp [VV]
 | y::l,k+1,x,h=>by
   have:=VW l k x (by simpa using h)
   rw [show (k+1)*3=k*3+3 by omega]
   simp only [VV,List.flatMap_cons] at*
   rw [List.drop_append,List.drop_of_length_le (by simp)]
   simpa using this
theorem bM(S:List Int)(A:List (Nat×Nat))(x:Nat×Nat)(h:A.length<S.length):S.zip (A++[x])=S.zip A++[(AF S A.length,x)]:=by
 apply List.ext_getElem?
 intro i
 rcases Nat.lt_trichotomy i A.length with g|g|g
 ·rw [List.getElem?_append_left (by simp;omega)]
  simp only [List.zip,List.getElem?_zipWith]
  rw [List.getElem?_append_left g]
 ·subst g
  rw [List.getElem?_append_right (by simp;omega)]
  simp only [List.zip,List.getElem?_zipWith]
  rw [List.getElem?_append_right (by omega),Da S _ h,Nat.sub_self,show (List.zipWith Prod.mk S A).length=A.length by simp;omega,Nat.sub_self]
  rfl
 rw [List.getElem?_eq_none (by simp;omega),List.getElem?_eq_none (by simp;omega)]
theorem QA(C S:List Int)(h:sm (cc C) 16=S.length):(CE C S).length=S.length:=by
 simp [CE,GL,h]
theorem VU(C S:List Int)(h:sm (cc C) 16=S.length)(i:Nat)(hi:i<S.length):∃x,(Hs (cc C) 16)[i]? =some x∧(CE C S)[i]? =some (AF S i,x):=by
 have hl:i<(Hs (cc C) 16).length:=by rw [GL];omega
 refine ⟨_,List.getElem?_eq_getElem hl,?_⟩
 simp only [CE,List.zip,List.getElem?_zipWith,Da S i hi,List.getElem?_eq_getElem hl]
theorem Ln(C S:List Int)(x:Int×Nat×Nat)(hx:x∈CE C S):x.1∈S∧x.2∈Hs (cc C) 16:=List.of_mem_zip (a:=x.1) (b:=x.2) hx
def symW(L:List (Int×Nat×Nat))(s:Int):Option (Nat×Nat):=(L.reverse.find? fun x=>decide (x.1=s)).map (·.2)
def codW(L:List (Int×Nat×Nat))(p:Int×Int):Option Int:=(L.reverse.find? fun x=>decide (p=((x.2.1:Int),(x.2.2:Int)))).map (·.1)
theorem XG(L:List (Int×Nat×Nat))(x:Int×Nat×Nat)(s:Int):symW (L++[x]) s=if s=x.1 then some x.2 else symW L s:=by
 unfold symW
 rw [List.reverse_append,List.reverse_singleton,List.singleton_append,List.find?_cons]
 by_cases h:s=x.1
 ·simp [h]
 have:¬x.1=s:=fun e=>h e.symm
 simp [h,this]
theorem WI(L:List (Int×Nat×Nat))(x:Int×Nat×Nat)(p:Int×Int):codW (L++[x]) p=if p=((x.2.1:Int),(x.2.2:Int)) then some x.1 else codW L p:=by
 unfold codW
 rw [List.reverse_append,List.reverse_singleton,List.singleton_append,List.find?_cons]
 by_cases h:p=((x.2.1:Int),(x.2.2:Int))
 ·simp [h]
 simp [h]
theorem GB{L:List (Int×Nat×Nat)}{s:Int}{y:Nat×Nat}(h:symW L s=some y):(s,y)∈L:=by
 unfold symW at h
 cases hf:L.reverse.find? fun x=>decide (x.1=s) with
 | none=>rw [hf] at h;cases h
 | some x=>
   rw [hf] at h
   have h1:=List.mem_of_find?_eq_some hf
   have h2:=List.find?_some hf
   simp only [Option.map_some,Option.some.injEq] at h
   simp only [decide_eq_true_eq] at h2
   subst h;subst h2
   simpa using h1
theorem XF{L:List (Int×Nat×Nat)}{s:Int}(h:symW L s=none):∀x∈L,x.1≠s:=by
 unfold symW at h
 rw [Option.map_eq_none_iff,List.find?_eq_none] at h
 intro x hx
 simpa using h x (by simpa using hx)
theorem MN{L:List (Int×Nat×Nat)}{a b:Nat}{s:Int}(h:codW L ((a:Int),(b:Int))=some s):(s,a,b)∈L:=by
 unfold codW at h
 cases hf:L.reverse.find? fun x=>decide (((a:Int),(b:Int))=((x.2.1:Int),(x.2.2:Int))) with
 | none=>rw [hf] at h;cases h
 | some x=>
   rw [hf] at h
   have h1:=List.mem_of_find?_eq_some hf
   have h2:=List.find?_some hf
   simp only [Option.map_some,Option.some.injEq] at h
   simp only [decide_eq_true_eq,Prod.mk.injEq] at h2
   obtain ⟨s',a',b'⟩:=x
   simp only at h h2
   obtain ⟨h3,h4⟩:=h2
   have h5:a=a':=by omega
   have h6:b=b':=by omega
   subst h;subst h5;subst h6
   simpa using h1
theorem WH{L:List (Int×Nat×Nat)}{a b:Nat}(h:codW L ((a:Int),(b:Int))=none):∀x∈L,x.2≠(a,b):=by
 unfold codW at h
 rw [Option.map_eq_none_iff,List.find?_eq_none] at h
 intro x hx
 have:=h x (by simpa using hx)
 intro e
 rw [e] at this
 simp at this
structure DN(L:List (Int×Nat×Nat)):Prop where
 long:∀x∈L,1≤x.2.1∧x.2.1≤16∧x.2.2+1<2^x.2.1
 sym:∀x∈L,∀y∈L,x.1=y.1→x=y
 pre:∀x∈L,∀y∈L,x.2.1≤y.2.1→y.2.2/2^(y.2.1-x.2.1)=x.2.2→x=y
 range:∀x∈L,0≤x.1∧x.1<256
theorem CC{C S:List Int}(h:A5 C S=0):DN (CE C S):=by
 obtain ⟨h1,h2,h3,h4,h5,h6⟩:=CM h
 have idx:∀x∈CE C S,∃i,i<S.length∧x.1=AF S i∧(Hs (cc C) 16)[i]? =some x.2∧(CE C S)[i]? =some x:=fun x hx=>by
  obtain ⟨i,hi,e⟩:=List.getElem_of_mem hx
  rw [QA C S h2] at hi
  obtain ⟨y,e1,e2⟩:=VU C S h2 i hi
  have e3:(CE C S)[i]? =some x:=by rw [List.getElem?_eq_getElem (by rw [QA C S h2];exact hi),e]
  rw [e2] at e3
  obtain rfl:(AF S i,y)=x:=by simpa using e3
  exact ⟨i,hi,rfl,e1,e2⟩
 refine ⟨fun x hx=>?_,fun x hx y hy e=>?_,fun x hx y hy hl hp=>?_,fun x hx=>h4 _ (Ln C S x hx).1⟩
 ·have:=iC (cc C) h6 x.2 (Ln C S x hx).2
  exact ⟨this.2.1,this.2.2,this.1⟩
 ·obtain ⟨i,hi,ei,ci,wi⟩:=idx x hx
  obtain ⟨j,hj,ej,cj,wj⟩:=idx y hy
  have hij:i=j:=by
   rw [ei,ej] at e
   have gi:=Da S i hi
   have gj:=Da S j hj
   rw [e] at gi
   exact (List.getElem?_inj hi h5).1 (by rw [gi,gj])
  subst hij
  rw [wi] at wj
  simpa using wj
 obtain ⟨i,hi,ei,ci,wi⟩:=idx x hx
 obtain ⟨j,hj,ej,cj,wj⟩:=idx y hy
 by_cases hij:i=j
 ·subst hij;rw [wi] at wj;simpa using wj
 exact absurd hp (V9 (cc C) i j x.2 y.2 ci cj hij hl)
theorem DN.symW{L:List (Int×Nat×Nat)}(h:DN L){x:Int×Nat×Nat}(hx:x∈L):symW L x.1=some x.2:=by
 cases hs:Go.Proofs.YtohacgmhmbijmaaGreatDoor.symW L x.1 with
 | none=>exact absurd rfl (XF hs x hx)
 | some y=>
   have:=h.sym _ (GB hs) x hx rfl
   rw [←this]
theorem DN.codW{L:List (Int×Nat×Nat)}(h:DN L){x:Int×Nat×Nat}(hx:x∈L):codW L ((x.2.1:Int),(x.2.2:Int))=some x.1:=by
 cases hs:Go.Proofs.YtohacgmhmbijmaaGreatDoor.codW L ((x.2.1:Int),(x.2.2:Int)) with
 | none=>exact absurd rfl (WH hs x hx)
 | some y=>
   have:=h.pre _ (MN hs) x hx (Nat.le_refl _) (by simp)
   rw [←this]
end Go.Proofs.YtohacgmhmbijmaaGreatDoor
namespace Go.Proofs.YtohacgmhmbijmaaGreatDoor
attribute [local irreducible] Region.wanted
open Go.RowKit
set_option linter.unusedVariables false
set_option maxRecDepth 100000
set_option maxHeartbeats 8000000
def DY{K:Type}(enc:K→Value)(x:K×Value×Nat):MapEntry:={key:=enc x.1,val:=x.2.1,born:=x.2.2}
def BI{K:Type}[DecidableEq K](k:K):List (K×Value×Nat)→Nat→Option (Nat×Value)
 | [],_=>none
 | x::l,i=>if k=x.1 then some (i,x.2.1) else BI k l (i+1)
structure GG{K:Type}[DecidableEq K](P:Program)(kt:TypeId)(enc:K→Value):Prop where
 check:∀(w:World)(b:Bool)(k:K),(Instr.checkKey b 10000 kt (enc k)).run P w= .ok () w
 find:∀(w:World)(k:K)(l:List (K×Value×Nat)),(Instr.findKey kt (enc k) (l.map (DY enc))).run P w= .ok (BI k l 0) w
 same:∀k,Instr.sameBits 10000 (enc k) (enc k)=true
def IY{K:Type}[DecidableEq K](enc:K→Value)(w:World)(b:Nat)(f:K→Option Value):Prop:=
 ∃(l:List (K×Value×Nat)) (clock:Nat),w.heap[b]? =some (.map (l.map (DY enc)).toArray clock)∧∀k,(BI k l 0).map (·.2)=f k
section
variable{K:Type}[DecidableEq K]{P:Program}{enc:K→Value}
theorem JG(k:K)(l:List (K×Value×Nat)):∀i,BI k l i=(BI k l 0).map fun x=>(x.1+i,x.2):=by
 induction l with
 | nil=>intro i;rfl
 | cons x l ih=>
   intro i
   simp only [BI]
   split
   ·simp
   rw [ih (i+1),ih (0+1)]
   cases BI k l 0 with
   | none=>rfl
   | some y=>simp;omega
theorem Nw(k:K)(l m:List (K×Value×Nat)):∀i,BI k (l++m) i=(BI k l i).or (BI k m (i+l.length)):=by
 induction l with
 | nil=>intro i;simp [BI]
 | cons x l ih=>
   intro i
   simp only [List.cons_append,BI]
   split
   ·simp
   rw [ih,List.length_cons,show i+1+l.length=i+(l.length+1) by omega]
theorem Nx(k j:K)(v:Value):∀(l:List (K×Value×Nat))(n i:Nat)(u:Value),BI k l n=some (n+i,u)→
 (BI j (l.modify i fun e=>(k,v,e.2.2)) n).map (·.2)=if j=k then some v else (BI j l n).map (·.2):=by
 intro l
 induction l with
 | nil=>intro n i u h;simp [BI] at h
 | cons x l ih=>
   intro n i u h
   simp only [BI] at h
   split at h
   ·rename_i hk
    simp only [Option.some.injEq,Prod.mk.injEq] at h
    have hi:i=0:=by omega
    subst hi
    simp only [List.modify_zero_cons,BI]
    by_cases hj:j=k
    ·simp [hj]
    have:¬j=x.1:=fun e=>hj (e.trans hk.symm)
    simp [hj,this]
   rename_i hk
   cases i with
   | zero=>
     exfalso
     rw [JG] at h
     cases hf:BI k l 0 with
     | none=>simp [hf] at h
     | some y=>simp [hf] at h;omega
   | succ i=>
     simp only [List.modify_succ_cons,BI]
     have h':BI k l (n+1)=some (n+1+i,u):=by rw [h];congr 2;omega
     split
     ·rename_i hj
      have:¬j=k:=fun e=>hk (e▸ hj)
      simp [this]
     exact ih (n+1) i u h'
theorem IY.new(w:World):IY enc (w.alloc (.map #[] 0)) w.heap.size (fun _=>none):=
 ⟨[],0,heap_alloc_new w _,fun _=>rfl⟩
theorem IY.lt{w:World}{b:Nat}{f:K→Option Value}(h:IY enc w b f):b<w.heap.size:=by
 obtain ⟨l,c,h,_⟩:=h
 exact (Array.getElem?_eq_some_iff.1 h).1
theorem IY.of_heap{w w':World}{b:Nat}{f:K→Option Value}(h:IY enc w b f)(hh:w'.heap[b]? =w.heap[b]?):IY enc w' b f:=by
 obtain ⟨l,c,h,hf⟩:=h
 exact ⟨l,c,by rw [hh];exact h,hf⟩
theorem KY{w:World}{b:Nat}{es:Array MapEntry}{c:Nat}(h:w.heap[b]? =some (.map es c)):(getObj b:Sem Obj).run P w= .ok (.map es c) w:=by
 simp [getObj,Sem.run,h]
theorem IY.lookup{w:World}{b:Nat}{f:K→Option Value}{mt kt et:TypeId}(h:IY enc w b f)(hm:P.underlying mt=some (.map kt et))(law:GG P kt enc)(k:K)(ok:Bool)
 {z:Value} (hz:∀w,(zeroValue et).run P w= .ok z w):
 (Instr.lookup mt (.map (some b)) (enc k) ok).run P w= .ok (if ok then .tuple #[(f k).getD z, .bool (f k).isSome] else (f k).getD z) w:=by
 obtain ⟨l,c,hb,hf⟩:=h
 have hfk:=hf k
 simp only [Instr.lookup,Sem.run_bind,run_underlying hm,Result.andThen_ok,KY hb,Sem.run_pure,law.check,law.find]
 cases hfi:BI k l 0 with
 | none=>
   rw [hfi] at hfk
   simp only [Option.map_none] at hfk
   rw [←hfk]
   simp [hz]
 | some y=>
   rw [hfi] at hfk
   simp only [Option.map_some] at hfk
   rw [←hfk]
   simp
theorem IY.update{w:World}{b:Nat}{f:K→Option Value}{mt kt et:TypeId}(h:IY enc w b f)(hm:P.underlying mt=some (.map kt et))(law:GG P kt enc)(k:K)(v:Value):
 ∃w',(Instr.mapUpdate mt (.map (some b)) (enc k) v).run P w= .ok () w'∧IY enc w' b (fun j=>if j=k then some v else f j)∧
  (∀W,W.heap.size≤b→Ah W w→Ah W w')∧∀i,i≠b→w'.heap[i]? =w.heap[i]? :=by
 obtain ⟨l,c,hb,hf⟩:=h
 have hlt:b<w.heap.size:=(Array.getElem?_eq_some_iff.1 hb).1
 have hset:∀o:Obj,(setObj b o).run P w= .ok () {w with heap:=w.heap.setIfInBounds b o}:=by
  intro o
  simp [setObj,Sem.run,hb]
 have hext:∀(o:Obj) W,W.heap.size≤b→Ah W w→Ah W {w with heap:=w.heap.setIfInBounds b o}:=fun o W hW hE=>
  Below.trans hE ⟨rfl,rfl,rfl,by simp,fun i hi=>by simp only [Array.getElem?_setIfInBounds];rw [if_neg (by omega)]⟩
 have hoth:∀(o:Obj) i,i≠b→({w with heap:=w.heap.setIfInBounds b o}:World).heap[i]? =w.heap[i]? :=fun o i hi=>by
  simp only [Array.getElem?_setIfInBounds];rw [if_neg (fun e=>hi e.symm)]
 have hnew:∀(o:Obj),({w with heap:=w.heap.setIfInBounds b o}:World).heap[b]? =some o:=fun o=>by
  simp [hlt]
 cases hfi:BI k l 0 with
 | none=>
   refine ⟨{w with heap:=w.heap.setIfInBounds b (.map ((l++[(k,v,c)]).map (DY enc)).toArray (c+1))},?_,⟨l++[(k,v,c)],c+1,hnew _,fun j=>?_⟩,hext _,hoth _⟩
   ·simp only [Instr.mapUpdate,Sem.run_bind,run_underlying hm,Result.andThen_ok,KY hb,law.check,law.find,hfi]
    rw [hset]
    congr 4
    simp [DY]
   show _=if j=k then some v else f j
   rw [Nw,←hf j]
   by_cases hj:j=k
   ·subst hj;simp [hfi,BI]
   cases BI j l 0<;>simp [BI,hj]
 | some y=>
   obtain ⟨i,u⟩:=y
   have hmod:=fun j=>Nx k j v l 0 i u (by rw [hfi];simp)
   have hik:∃e,l[i]? =some e∧e.1=k:=by
    have:∀(l:List (K×Value×Nat)) n i u,BI k l n=some (n+i,u)→∃e,l[i]? =some e∧e.1=k:=by
     intro l
     induction l with
     | nil=>intro n i u h;simp [BI] at h
     | cons x l ih=>
       intro n i u h
       simp only [BI] at h
       split at h
       ·rename_i hk
        simp only [Option.some.injEq,Prod.mk.injEq] at h
        have hi:i=0:=by omega
        subst hi
        exact ⟨x,rfl,hk.symm⟩
       cases i with
       | zero=>
         exfalso
         rw [JG] at h
         cases hf:BI k l 0 with
         | none=>simp [hf] at h
         | some y=>simp [hf] at h;omega
       | succ i=>exact ih (n+1) i u (by rw [h];congr 2;omega)
    exact this l 0 i u (by rw [hfi];simp)
   obtain ⟨e,he,hek⟩:=hik
   refine ⟨{w with heap:=w.heap.setIfInBounds b (.map ((l.modify i fun e=>(k,v,e.2.2)).map (DY enc)).toArray c)},?_,⟨l.modify i fun e=>(k,v,e.2.2),c,hnew _,fun j=>?_⟩,hext _,hoth _⟩
   ·simp only [Instr.mapUpdate,Sem.run_bind,run_underlying hm,Result.andThen_ok,KY hb,law.check,law.find,hfi]
    have hold:(((l.map (DY enc)).toArray[i]?).map (·.key)).getD (enc k)=enc k:=by simp [he,DY,hek]
    rw [hold]
    simp only [Instr.keyThatStays,law.same,if_true,Sem.run_pure,Result.andThen_ok]
    rw [hset]
    congr 4
    apply Array.ext_getElem?
    intro j
    simp only [Array.getElem?_modify,List.getElem?_toArray,List.getElem?_map,List.getElem?_modify]
    by_cases hij:i=j
    ·subst hij;simp [he,DY]
    simp [hij]
   rw [hmod j,hf j]
end
def ik(n:Int):Value:= .int .i64 n
theorem Cl{P:Program}{kt:TypeId}(h:P.underlying kt=some (.int .i64)):GG P kt ik where
 check w b k:=by
  unfold ik
  rw [show (10000:Nat)=9999+1 from rfl,Instr.checkKey]
  simp [run_underlying h]
 find w k l:=by
  have key:∀(l:List (Int×Value×Nat)) i,Instr.findNow (.int .i64) (ik k) (l.map (DY ik)) i=some (BI k l i):=by
   intro l
   induction l with
   | nil=>intro i;rfl
   | cons x l ih=>
     intro i
     simp only [List.map_cons,Instr.findNow,BI,DY,ik,Instr.sameNow,if_true]
     by_cases hx:k=x.1
     ·simp [hx]
     have:(k==x.1)=false:=by simpa using hx
     simp only [this,hx,if_false]
     exact ih (i+1)
  simp [Instr.findKey,run_underlying h,key]
 same k:=by unfold ik;rw [Instr.sameBits.eq_2];simp
section
variable{K:Type}[DecidableEq K]{P:Program}{enc:K→Value}
end
end Go.Proofs.YtohacgmhmbijmaaGreatDoor
