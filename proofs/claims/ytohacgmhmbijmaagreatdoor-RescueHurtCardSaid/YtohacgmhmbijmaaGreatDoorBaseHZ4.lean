/- What the laws RescueHurt need, part 4. -/
import Derived.Test.YtohacgmhmbijmaaGreatDoorBaseHZ1
import Derived.Test.YtohacgmhmbijmaaGreatDoorBaseHZ2
import Derived.Test.YtohacgmhmbijmaaGreatDoorBaseHZ3
import Derived.ProofKit
import Derived.OpenShut
import Derived.ChangeOld
import Derived.Deep.Slices
namespace Go.Proofs.YtohacgmhmbijmaaGreatDoor
attribute [local irreducible] Region.wanted
open Go.RowKit
set_option linter.unusedVariables false
set_option maxRecDepth 100000
set_option maxHeartbeats 8000000
theorem Vr(a b A B:Int)(ha: -A≤a∧a≤A)(hb: -B≤b∧b≤B): -(A*B)≤a*b∧a*b≤A*B:=by
 have hA:0≤A:=by omega
 have hB:0≤B:=by omega
 have h1:(a*b).natAbs≤(A*B).natAbs:=by
  rw [Int.natAbs_mul,Int.natAbs_mul];exact Nat.mul_le_mul (by omega) (by omega)
 have h2:0≤A*B:=Int.mul_nonneg hA hB
 omega
def UW(f:Nat→Int):Nat→Int
 | 0=>0
 | n+1=>UW f n+f n
theorem Z5(f:Nat→Int)(B:Int)(n:Nat)(h:∀i,i<n→ -B≤f i∧f i≤B): -(n*B)≤UW f n∧UW f n≤n*B:=by
 induction n with
 | zero=>simp [UW]
 | succ n ih=>
   have h1:=ih fun i hi=>h i (by omega)
   have h2:=h n (by omega)
   have e:((n+1:Nat):Int)*B=n*B+B:=by push_cast;rw [Int.add_mul,Int.one_mul]
   rw [e];simp only [UW];omega
structure XS(K:FuncId)(cf:Int→Int→Int):Prop where
 call:∀(args:Array Value)(w:World),(callFunc K args).run Tryz.prog w= .ok (.enter K args) w
 run:∀(i k:Nat)(w:World),i<8→k<8→Calls Tryz.prog K #[.int .i64 i, .int .i64 k] w fun e w'=>e= .returned (.int .i64 (cf i k))∧Ai w w'
 bd:∀i k:Int,-4096≤cf i k∧cf i k≤4096
def YH(b:List Int)(cf:Int→Int→Int)(p k:Nat):Int:=AJ b (8*(p%8)+k)*cf (p/8:Nat) k
def ee(b:List Int)(cf:Int→Int→Int)(p:Nat):Int:=UW (YH b cf p) 8
def P9(b:List Int)(cf:Int→Int→Int):List Int:=Wl 64 (ee b cf)
def XK(b:List Int)(cf:Int→Int→Int)(r i k p:Nat):Int:=if p%8<r∨p%8=r∧p/8<i then ee b cf p else if p%8=r∧p/8=i then UW (YH b cf p) k else 0
theorem MF(w0:World)(b:List Int)(K:FuncId)(cf:Int→Int→Int)(hK:XS K cf)(hb:Al b 64)(hB:∀i,-2000000000≤AJ b i∧AJ b i≤2000000000):
 Calls Tryz.prog 116 #[.agg (iv b), .func (.func K) #[] #[]] w0 fun e w=>e= .returned (.agg (iv (P9 b cf)))∧Ai w0 w:=by
 have hS:=St.start w0
 have HK:=AD hK
 have HB:=AD hB
 clear hK hB
 go_enter Tryz.func116,Tryz.ntmps116
 repeat' (first
  | refine X1 ?_|refine Mw 2 ?_;clear hS;intro g2 w hS|refine KK 4 ?_;clear hS;intro g4 w hS|refine AG ?_;go_step|fail)
 go_loopg [8] 8 (fun gk kv w=>∃(r:Nat) (o:List Int),gk+r=8∧kv= .int .i64 r∧(∀p,p<64→AJ o p=XK b cf r 0 0 p)∧St w0 w [arr g4 64 o,arr g2 64 b])
 case atStart=>exact ⟨0,_,rfl,rfl,fun p hp=>by rw [EH];unfold XK;rw [if_neg (by omega)];split<;>rfl,hS.sub AV⟩
 case round=>
  clear hS
  obtain ⟨r,o,hr,rfl,ho,hS⟩:=hrel
  have HO:=AD ho
  clear ho
  by_cases hlt:r<8
  ·obtain ⟨gk1,hgk1⟩:∃x,x=gk:=⟨_,rfl⟩
   subst hgk1
   repeat' (first
    | refine X0 ?_|refine X2 ?_|refine AG ?_;go_step|fail)
   go_loopg [11] 8 (fun gk kv w=>∃(i:Nat) (o:List Int),gk+i=8∧kv= .int .i64 i∧(∀p,p<64→AJ o p=XK b cf r i 0 p)∧St w0 w [arr g4 64 o,arr g2 64 b])
   case atStart=>exact ⟨0,o,rfl,rfl,HO.out,hS.sub AV⟩
   case round=>
    clear hS HO
    obtain ⟨i,o,hi,rfl,ho,hS⟩:=hrel
    have HO:=AD ho
    clear ho
    by_cases hlt2:i<8
    ·obtain ⟨gk2,hgk2⟩:∃x,x=gk:=⟨_,rfl⟩
     subst hgk2
     repeat' (first
      | refine X0 ?_|refine X2 ?_|refine AG ?_;go_step|fail)
     go_loopg [14] 8 (fun gk kv w=>∃(k:Nat) (o:List Int),gk+k=8∧kv= .int .i64 k∧(∀p,p<64→AJ o p=XK b cf r i k p)∧St w0 w [arr g4 64 o,arr g2 64 b])
     case atStart=>exact ⟨0,o,rfl,rfl,HO.out,hS.sub AV⟩
     case round=>
      clear hS HO
      obtain ⟨k,o,hk,rfl,ho,hS⟩:=hrel
      have HO:=AD ho
      have hop:=ho (8*i+r) (by omega)
      clear ho
      by_cases hlt3:k<8
      ·obtain ⟨cv,hcv⟩:∃cv,cf (i:Nat) (k:Nat)=cv:=⟨_,rfl⟩
       have hc:=HK.out.bd (i:Nat) (k:Nat)
       rw [hcv] at hc
       have hbb:=HB.out (8*r+k)
       obtain ⟨m0,m1⟩:=Vr (AJ b (8*r+k)) cv 2000000000 4096 (by omega) (by omega)
       have hop2:AJ o (8*i+r)=UW (YH b cf (8*i+r)) k:=by
        rw [hop];unfold XK;rw [if_neg (by omega),if_pos (by omega)]
       have hsb: -(k*8192000000000)≤UW (YH b cf (8*i+r)) k∧UW (YH b cf (8*i+r)) k≤k*8192000000000:=Z5 _ _ _ fun j hj=>by
        have h1:=HK.out.bd (((8*i+r)/8:Nat)) j
        have h2:=HB.out (8*((8*i+r)%8)+j)
        have:=Vr (AJ b (8*((8*i+r)%8)+j)) (cf (((8*i+r)/8:Nat)) j) 2000000000 4096 (by omega) (by omega)
        unfold YH;omega
       have hob: -70000000000000≤AJ o (8*i+r)∧AJ o (8*i+r)≤70000000000000:=by rw [hop2];omega
       have HN:Hid (AJ o (8*i+r)+AJ b (8*r+k)*cv=UW (YH b cf (8*i+r)) (k+1)):=by
        unfold Hid;rw [hop2,UW,YH,show (8*i+r)%8=r by omega,show (8*i+r)/8=i by omega,hcv]
       have HCV:=AD hcv
       clear hop hop2 hsb hcv
       repeat' (first
        | refine X0 ?_|refine X2 ?_|refine AG ?_;go_step|fail)
       refine AP [19] (fun w=>St w0 w [arr g4 64 o,arr g2 64 b]) AA ?_
       replace hS:=hS.drew
       focus
        refine AZ 0 ?_
        refine Zt 1 ?_
        refine AZ 2 ?_
        refine Y9 3 ?_
        refine ec 4 ?_
        refine fT 5 [17,18,19] ?_
        refine AZ 6 ?_
        refine Zt 7 ?_
        refine AZ 8 ?_
        refine Y9 9 ?_
        refine ec 10 ?_
        refine fT 11 [16,17,18,19] ?_
        refine AZ 12 ?_
        refine AZ 13 ?_
        refine AZ 14 ?_
        refine Av 15 ?_
        refine BJ (f:=K) rfl rfl HK.out.call (HK.out.run i k _ (by omega) (by omega)) ?_;rintro e w ⟨rfl,hE⟩;replace hS:=hS.ext hE;clear hE;rw [HCV.out];refine ⟨_,rfl,?_⟩
        refine ⟨fun _ _=>hS.sub AV,?_⟩
        refine AI ?_
        go_step
        refine Zt 16 ?_
        refine Y9 17 ?_
        refine ec 18 ?_
        refine Av 19 ?_
        (refine Hx hS 3 _ _ rfl _ _ rfl (AH rfl) _ _ AL _ (by rfl) (by omega) rfl ?_;clear hS;intro w hS)
        refine ⟨fun h=>absurd (by decide) h,?_⟩
        refine AE AA ?_ _
       repeat' (first
        | refine X1 ?_|refine X7 ?_|refine AG ?_;go_step|fail)
       go_roundg (gk-1)
       case measure=>omega
       case rel=>
        have hol:=(hS.arr (g:=g4) (n:=64) AL).2
        rw [List.length_set] at hol
        refine ⟨k+1,_,by omega,by go_num,fun p hp=>?_,hS.sub AV⟩
        rw [CN o (8*i+r) p _ (by omega)]
        split
        ·rename_i e
         subst e
         rw [HN.out];unfold XK;rw [if_neg (by omega),if_pos (by omega)]
        rename_i e
        rw [HO.out p hp];unfold XK
        by_cases h1:p%8<r∨p%8=r∧p/8<i
        ·rw [if_pos h1,if_pos h1]
        rw [if_neg h1,if_neg h1,if_neg (by omega),if_neg (by omega)]
      obtain rfl:k=8:=by omega
      repeat' (first
       | refine X1 ?_|refine X2 ?_|refine X7 ?_|refine AG ?_;go_step|fail)
      go_roundg (gk2-1)
      case measure=>omega
      case rel=>
       refine ⟨i+1,o,by omega,by go_num,fun p hp=>?_,hS.sub AV⟩
       rw [HO.out p hp];unfold XK ee
       by_cases h1:p%8<r∨p%8=r∧p/8<i
       ·rw [if_pos h1,if_pos (by omega)]
       rw [if_neg h1]
       by_cases h2:p%8=r∧p/8=i
       ·rw [if_pos h2,if_pos (by omega)]
       rw [if_neg h2,if_neg (by omega)];split<;>rfl
    obtain rfl:i=8:=by omega
    repeat' (first
     | refine X1 ?_|refine X2 ?_|refine X7 ?_|refine AG ?_;go_step|fail)
    go_roundg (gk1-1)
    case measure=>omega
    case rel=>
     refine ⟨r+1,o,by omega,by go_num,fun p hp=>?_,hS.sub AV⟩
     rw [HO.out p hp];unfold XK
     by_cases h1:p%8<r∨p%8=r∧p/8<8
     ·rw [if_pos h1,if_pos (by omega)]
     rw [if_neg h1,if_neg (by omega),if_neg (by omega)];split<;>rfl
  obtain rfl:r=8:=by omega
  have hol:=(hS.arr (g:=g4) (n:=64) AL).2
  have lo:Al o 64:=hol
  repeat' (first
   | refine X2 ?_|refine Jm ?_|refine Fd ?_;clear hS;intro w hS|refine AG ?_;go_step|fail)
  refine BQ rfl (AC.arr hS rfl (AO (n:=64) rfl) AL) rfl ?_
  refine ⟨?_,hS.1⟩
  rw [P9,←Hs hol fun p hp=>by rw [HO.out p hp];unfold XK;rw [if_pos (by omega)]]
def US(b:List Int):Bool:=Bt b (-40000) 40000
def eW(cf:Int→Int→Int)(b:List Int)(p:Nat):Int:=I9 (AJ (P9 (P9 b cf) cf) p) 67108864
def XR(cf:Int→Int→Int)(b:List Int):List Int:=if US b then Wl 64 (eW cf b) else List.replicate 64 0
def eV(b:List Int):Int:=if US b then 0 else 1
theorem Fc(cf:Int→Int→Int)(b:List Int):Al (XR cf b) 64:=by
 show (XR cf b).length=64
 unfold XR;split
 ·exact DS _ _
 simp
theorem Uu(b:List Int)(cf:Int→Int→Int)(hc:∀i k:Int,-4096≤cf i k∧cf i k≤4096)(B:Int)(hB:∀i,-B≤AJ b i∧AJ b i≤B)(i:Nat): -(8*(B*4096))≤AJ (P9 b cf) i∧AJ (P9 b cf) i≤8*(B*4096):=by
 have h0:=hB 0
 by_cases hi:i<64
 ·rw [P9,Gb _ _ _ hi,ee]
  have:=Z5 (YH b cf i) (B*4096) 8 fun j hj=>Vr _ _ _ _ (hB _) (hc _ _)
  simpa using this
 rw [NV _ _ (by rw [P9,DS];omega)];omega
theorem eL{b:List Int}(h:US b=true)(i:Nat): -40000≤AJ b i∧AJ b i≤40000:=by
 by_cases hi:i<b.length
 ·exact (BF _ _ _).1 h i hi
 rw [NV _ _ (by omega)];omega
theorem LO(n:Int)(w:World):Calls Tryz.prog 115 #[.int .i64 n] w fun e w'=>e= .returned (.bool (decide (n< -40000)||decide (40000<n)))∧w=w':=by
 go_enter Tryz.func115,Tryz.ntmps115
 repeat' (first
  | go_skip|((first|(with_reducible refine Io ?_)|(with_reducible refine QC ?_));(first|go_big_want|go_step);go_step)|((with_reducible refine Ak _ (.pick _ _ _) ?_);first|(refine A6 rfl AA ?_;go_step)|(refine A3 rfl AA ?_;go_step))|((refine AQ 4 ?_);(refine CG _ (V.lss rfl rfl) AA (fun hB=>?_) (fun hB=>?_)<;>(try exact AR)<;>go_step))|((with_reducible refine Ak _ (.binOp .gtr _ _ _ _) ?_);(refine An AA (V.gtr rfl rfl) ?_;go_step))|(refine AG ?_;go_step)|fail)
 all_goals (go_ret;exact ⟨DR (by simp;omega),rfl⟩)
theorem OL(l:List Int):(l.any fun n=>decide (n< -40000)||decide (40000<n))= !US l:=by unfold US Bt;simp
theorem Ml(w0:World)(b:List Int)(K:FuncId)(cf:Int→Int→Int)(hK:XS K cf)(hb:Al b 64):
 Calls Tryz.prog 79 #[.agg (iv b), .func (.func K) #[] #[]] w0 fun e w=>e= .returned (.tuple #[.agg (iv (XR cf b)), .int .i64 (eV b)])∧Ai w0 w:=by
 have hS:=St.start w0
 have HK:=AD hK
 clear hK
 cases hok:US b
 ·have HO:=AD hok
  clear hok
  go_enter Tryz.func79,Tryz.ntmps79
  repeat' (first
   | (refine As 76 ?_);refine At AA Tryz.call76 (BC _ _ b (hS.isl AL (by omega)) 115 #[] (fun n=>decide (n< -40000)||decide (40000<n)) Tryz.call115 (fun n=>LO n _)) ?_;rintro e w' ⟨rfl,rfl⟩;rw [OL,HO.out];refine Ac ?_;go_step|refine X8 ?_|refine bS ?_|(refine AQ 10 ?_);(refine An AA (V.build (vs:=[]) rfl (Zu)) ?_;go_step)|refine Mw 2 ?_;clear hS;intro g2 w hS|refine KK 4 ?_;clear hS;intro g4 w hS|refine Fd ?_;clear hS;intro w hS|refine AG ?_;go_step|fail)
  refine AK (xs:=[_,_]) rfl (.cons (AC.arr hS rfl (AO (n:=64) rfl) AL) (.cons (AC.tmp rfl) (.nil))) (by simp) rfl ?_
  exact ⟨by unfold XR eV;rw [HO.out];rfl,hS.1⟩
 have HO:=AD hok
 have HB1:=AD (eL hok)
 have HB2:=AD (Uu b cf HK.out.bd 40000 HB1.out)
 have HB3:=AD (Uu (P9 b cf) cf HK.out.bd (8*(40000*4096)) HB2.out)
 have hl1:Al (P9 b cf) 64:=DS _ _
 have hl2:Al (P9 (P9 b cf) cf) 64:=DS _ _
 clear hok
 go_enter Tryz.func79,Tryz.ntmps79
 repeat' (first
  | (refine As 76 ?_);refine At AA Tryz.call76 (BC _ _ b (hS.isl AL (by omega)) 115 #[] (fun n=>decide (n< -40000)||decide (40000<n)) Tryz.call115 (fun n=>LO n _)) ?_;rintro e w' ⟨rfl,rfl⟩;rw [OL,HO.out];refine Ac ?_;go_step|(refine AQ 13 ?_);refine AM (f:=116) Tryz.call116 AA ?_;refine ⟨_,MF _ b K cf HK.out (by assumption) (fun i=>by have:=HB1.out i;omega),?_⟩;rintro e w ⟨rfl,hE⟩;replace hS:=hS.ext hE;clear hE;refine Ac ?_;go_step|(refine AQ 15 ?_);refine AM (f:=116) Tryz.call116 AA ?_;refine ⟨_,MF _ (P9 b cf) K cf HK.out (by assumption) (fun i=>by have:=HB2.out i;omega),?_⟩;rintro e w ⟨rfl,hE⟩;replace hS:=hS.ext hE;clear hE;refine Ac ?_;go_step|refine X0 ?_|refine bS ?_|refine Mw 2 ?_;clear hS;intro g2 w hS|refine KK 4 ?_;clear hS;intro g4 w hS|refine Fd ?_;clear hS;intro w hS|refine Jm ?_|refine AG ?_;go_step|fail)
 obtain ⟨al,hal⟩:∃al,P9 (P9 b cf) cf=al:=⟨_,rfl⟩
 rw [hal] at hS hl2⊢
 have HAL:=AD hal
 have HB4:Hid (∀i,-2305843009213693951≤AJ al i∧AJ al i≤2305843009213693951):=fun i=>by have:=HB3.out i;rw [HAL.out] at this;omega
 clear hal HB3 HB2 HB1 hl1
 go_loopg [17] 64 (fun gk kv w=>∃(i:Nat) (o:List Int),gk+i=64∧kv= .int .i64 i∧(∀p,p<i→AJ o p=eW cf b p)∧St w0 w [arr g2 64 o,arr g4 64 (List.replicate 64 0)])
 case atStart=>exact ⟨0,_,rfl,rfl,fun p hp=>by omega,hS.sub AV⟩
 case round=>
  clear hS
  obtain ⟨i,o,hi,rfl,ho,hS⟩:=hrel
  have HO2:=AD ho
  clear ho
  have hol:=(hS.arr (g:=g2) (n:=64) AL).2
  by_cases hlt:i<64
  ·have hbb:=HB4.out i
   have HV:Hid (I9 (AJ al i) 67108864=eW cf b i):=by unfold Hid eW;rw [HAL.out]
   repeat' (first
    | (refine As 64 ?_);refine At AA Tryz.call64 (JA (AJ al i) 67108864 _ (by omega) (by omega) (by omega) (by omega)) ?_;rintro e w' ⟨rfl,rfl⟩;rw [HV.out];refine Ac ?_;go_step|refine X0 ?_|refine X2 ?_|refine Xv 20 ?_|refine YA 24 ?_|refine X7 ?_|refine Xg ?_;clear hS;intro w hS|refine AG ?_;go_step|fail)
   go_roundg (gk-1)
   case measure=>omega
   case rel=>
    refine ⟨i+1,_,by omega,by go_num,fun p hp=>?_,hS.sub AV⟩
    rw [CN o i p _ (by omega)]
    split
    ·rename_i e;rw [e]
    exact HO2.out p (by have h9:p<i+1:=hp;omega)
  obtain rfl:i=64:=by omega
  have lo:Al o 64:=hol
  have hw:o=Wl 64 (eW cf b):=Hs hol fun p hp=>HO2.out p hp
  have HW:=AD hw
  clear hw
  repeat' (first
   | refine X8 ?_|refine X2 ?_|refine Jm ?_|refine Fd ?_;clear hS;intro w hS|refine AG ?_;go_step|fail)
  refine AK (xs:=[_,_]) rfl (.cons (AC.arr hS rfl (AO (n:=64) rfl) AL) (.cons (AC.tmp rfl) (.nil))) (by simp) rfl ?_
  exact ⟨by unfold XR eV;rw [HO.out,HW.out];rfl,hS.1⟩
theorem QH:XS 80 Lm:=⟨Tryz.call80,fun i k w h1 h2=>MG w i k (by omega) (by omega),Ra⟩
def d7(i k:Int):Int:=Lm k i
def eg(b:List Int):List Int:=XR Lm b
def Sn(b:List Int):List Int:=XR d7 b
theorem Zf(w0:World)(b:List Int)(hb:Al b 64):Calls Tryz.prog 47 #[.agg (iv b)] w0 fun e w=>e= .returned (.tuple #[.agg (iv (eg b)), .int .i64 (eV b)])∧Ai w0 w:=by
 have hS:=St.start w0
 have hl:Al (XR Lm b) 64:=Fc _ _
 go_enter Tryz.func47,Tryz.ntmps47
 repeat' (first
  | (refine As 79 ?_);refine At AA Tryz.call79 (Ml _ b 80 Lm QH (by assumption)) (Fp hS ?_);clear hS;intro w hS;go_step|refine X8 ?_|refine X6 ?_|refine Mw 1 ?_;clear hS;intro g1 w hS|refine KK 2 ?_;clear hS;intro g2 w hS|refine Jm ?_|refine Fd ?_;clear hS;intro w hS|refine AG ?_;go_step|fail)
 refine AK (xs:=[_,_]) rfl (.cons (AC.arr hS rfl (AO (n:=64) rfl) AL) (.cons (AC.tmp rfl) (.nil))) (by simp) rfl ?_
 exact ⟨rfl,hS.1⟩
theorem Tb(w0:World)(i k:Int)(hu:0≤i∧i≤7)(hx:0≤k∧k≤7):Calls Tryz.prog 127 #[.int .i64 i, .int .i64 k] w0 fun e w=>e= .returned (.int .i64 (d7 i k))∧Ai w0 w:=by
 have hS:=St.start w0
 go_enter Tryz.func127,Tryz.ntmps127
 repeat' (first
  | (refine As 80 ?_);refine At AA Tryz.call80 (MG _ k i (by omega) (by omega)) (Fp hS ?_);clear hS;intro w hS;go_step|refine X0 ?_|refine AG ?_;go_step|fail)
 go_ret
 exact ⟨rfl,hS.1⟩
theorem TN:XS 127 d7:=⟨Tryz.call127,fun i k w h1 h2=>Tb w i k (by omega) (by omega),fun i k=>Ra k i⟩
theorem UK(w0:World)(b:List Int)(hb:Al b 64):Calls Tryz.prog 94 #[.agg (iv b)] w0 fun e w=>e= .returned (.tuple #[.agg (iv (Sn b)), .int .i64 (eV b)])∧Ai w0 w:=by
 have hS:=St.start w0
 have hl:Al (XR d7 b) 64:=Fc _ _
 go_enter Tryz.func94,Tryz.ntmps94
 repeat' (first
  | (refine As 79 ?_);refine At AA Tryz.call79 (Ml _ b 127 d7 TN (by assumption)) (Fp hS ?_);clear hS;intro w hS;go_step|refine X8 ?_|refine X6 ?_|refine Mw 1 ?_;clear hS;intro g1 w hS|refine KK 2 ?_;clear hS;intro g2 w hS|refine Jm ?_|refine Fd ?_;clear hS;intro w hS|refine AG ?_;go_step|fail)
 refine AK (xs:=[_,_]) rfl (.cons (AC.arr hS rfl (AO (n:=64) rfl) AL) (.cons (AC.tmp rfl) (.nil))) (by simp) rfl ?_
 exact ⟨rfl,hS.1⟩
theorem TC(m0:Int)(m1:Int)(w:World):(Instr.build 107 #[(0, .int .i64 m0),(1, .int .i64 m1)]).run Tryz.prog w= .ok (.agg #[.int .i64 m0, .int .i64 m1]) w:=by kernel_rfl
theorem C4(w0:World)(m n:Int):Calls Tryz.prog 58 #[.agg #[.int .i64 m, .int .i64 n]] w0 fun e w'=>e= .returned (.int .i64 (if 1≤m∧m≤64∧1≤n∧n≤64 then 0 else 1))∧Ai w0 w':=by
 have hS:=St.start w0
 go_enter Tryz.func58,Tryz.ntmps58
 repeat' (first
  | go_skip|((first|(with_reducible refine Io ?_)|(with_reducible refine QC ?_));(first|go_big_want|go_step);go_step)|((with_reducible refine Ak _ (.pick _ _ _) ?_);first|(refine A6 rfl AA ?_;go_step)|(refine A3 rfl AA ?_;go_step))|((refine AQ 5 ?_);(refine CG _ (V.lss rfl rfl) AA (fun hB=>?_) (fun hB=>?_)<;>(try exact AR)<;>go_step))|((refine AQ 9 ?_);(refine CG _ (V.gtr rfl rfl) AA (fun hB=>?_) (fun hB=>?_)<;>(try exact AR)<;>go_step))|((refine AQ 14 ?_);(refine CG _ (V.lss rfl rfl) AA (fun hB=>?_) (fun hB=>?_)<;>(try exact AR)<;>go_step))|((with_reducible refine Ak _ (.fieldAddr 107 _ 0) ?_);(refine An AA (V.fieldAddr Ru rfl A7) ?_;go_step))|((with_reducible refine Ak _ (.fieldAddr 107 _ 1) ?_);(refine An AA (V.fieldAddr Rv rfl A7) ?_;go_step))|((with_reducible refine Ak _ (.binOp .gtr _ _ _ _) ?_);(refine An AA (V.gtr rfl rfl) ?_;go_step))|((refine AQ 1 ?_);(refine Ad ?_;apply CS (o:=⟨some 1,_,_,_,_,_⟩) hS 107 _ rfl _ rfl;clear hS;intro g1 w hS;refine AB ?_;go_step))|((with_reducible refine Ak _ (.load 3 _) ?_);(refine Ad ?_;apply AX hS 3 _ rfl _ _ rfl (AH rfl) _;(case hp=>exact AL);(case hc=>rfl);refine AB ?_;go_step))|(refine AG ?_;go_step)|fail)
 all_goals (go_ret;exact ⟨FX (by omega),hS.1⟩)
theorem KO(w0:World)(m n:Int)(h:1≤m∧m≤64):Calls Tryz.prog 97 #[.agg #[.int .i64 m, .int .i64 n]] w0 fun e w'=>e= .returned (.int .i64 ((m+7)/8))∧Ai w0 w':=by
 have hS:=St.start w0
 go_enter Tryz.func97,Tryz.ntmps97
 repeat' (first
  | (refine AQ 6 ?_);(refine Ag (.int _ (m+7)) (V.as (V.subI rfl rfl (by omega)) (by omega)) (by kernel_rfl) ?_;go_step)|refine X8 ?_|(with_reducible refine Ak _ (.fieldAddr 107 _ 0) ?_);(refine An AA (V.fieldAddr Ru rfl A7) ?_;go_step)|refine X7 ?_|(with_reducible refine Ak _ (.binOp .quo _ _ _ _) ?_);(refine An AA (V.quo rfl rfl (by omega) (by omega)) ?_;go_step)|(refine AQ 1 ?_);(refine Ad ?_;apply CS (o:=⟨some 1,_,_,_,_,_⟩) hS 107 _ rfl _ rfl;clear hS;intro g1 w hS;refine AB ?_;go_step)|refine X9 ?_|refine AG ?_;go_step|fail)
 go_ret
 exact ⟨rfl,hS.1⟩
theorem IJ(w0:World)(m n:Int)(h:1≤m∧m≤64)(h2:1≤n∧n≤64):Calls Tryz.prog 59 #[.agg #[.int .i64 m, .int .i64 n]] w0 fun e w'=>e= .returned (.int .i64 ((m+7)/8*((n+7)/8)))∧Ai w0 w':=by
 have hS:=St.start w0
 obtain ⟨k0,k1⟩:=ED ((m+7)/8) ((n+7)/8) 8 8 (by omega) (by omega)
 go_enter Tryz.func59,Tryz.ntmps59
 repeat' (first
  | refine X8 ?_|(refine AQ 1 ?_);(refine Ad ?_;apply CS (o:=⟨some 1,_,_,_,_,_⟩) hS 107 _ rfl _ rfl;clear hS;intro g1 w hS;refine AB ?_;go_step)|refine AG ?_;go_step|fail)
 refine AP [] (fun w=>St w0 w [blk g1 [.int .i64 m, .int .i64 n]]) AA ?_
 replace hS:=hS.drew
 focus
  refine eo 0 [1,7,8] ?_
  refine BZ 2 BN (V.fieldAddr Rv rfl A7) ?_;go_step
  refine Y5 3 [4,5,6,7,8] ?_
  refine Y9 4 ?_
  (refine BV 5 (.int _ (n+7)) Aj AA AA AA Be (V.as (V.subI rfl rfl (by omega)) (by omega)) AA ?_)
  go_step
  refine bf 6 ?_
  refine Av 1 ?_
  refine AY (f:=97) rfl Tryz.call97 (KO _ m n h) ?_;rintro e w ⟨rfl,hE⟩;replace hS:=hS.ext hE;clear hE;refine ⟨_,rfl,?_⟩
  refine ⟨fun _ _=>hS.sub AV,?_⟩
  refine AI ?_
  go_step
  refine Zt 7 ?_
  refine AZ 8 ?_
  refine AE AA ?_ _
 all_goals
  repeat' (first
   | refine AG ?_;go_step|fail)
 all_goals (go_ret;exact ⟨rfl,hS.1⟩)
theorem Fs(w0:World)(m n:Int):Calls Tryz.prog 32 #[.int .i64 m, .int .i64 n] w0 fun e w'=>e= .returned (.tuple #[.int .i64 (if 1≤m∧m≤64∧1≤n∧n≤64 then (m+7)/8*((n+7)/8) else 0), .int .i64 (if 1≤m∧m≤64∧1≤n∧n≤64 then 0 else 1)])∧Ai w0 w':=by
 have hS:=St.start w0
 by_cases hok:1≤m∧m≤64∧1≤n∧n≤64
 all_goals
  (first|simp only [if_pos hok]|simp only [if_neg hok])
  go_enter Tryz.func32,Tryz.ntmps32
  repeat' (first
   | (refine As 58 ?_);refine At AA Tryz.call58 (C4 _ m n) ?_;rintro e w ⟨rfl,hE⟩;replace hS:=hS.ext hE;clear hE;(first|rw [if_pos hok]|rw [if_neg hok]);refine Ac ?_;go_step|(refine As 59 ?_);refine At AA Tryz.call59 (IJ _ m n (by omega) (by omega)) (Fp hS ?_);clear hS;intro w hS;go_step|refine X0 ?_|refine bU 10 ?_|refine X4 ?_|refine bH 6 ?_;clear hS;intro g6 w hS|refine bI ?_;clear hS;intro w hS|refine XE ?_|refine AG ?_;go_step|fail)
  go_ret2
  exact ⟨rfl,hS.1⟩
def IS(ac k i:Int):Int:=k/ac*8+i/8
def F9(ac k i:Int):Int:=k%ac*8+i%8
theorem I5(w0:World)(m n k i:Int)(h:1≤m∧m≤64)(hk:0≤k∧k≤100000)(hi:0≤i∧i<64):
 Calls Tryz.prog 78 #[.agg #[.int .i64 m, .int .i64 n], .int .i64 k, .int .i64 i] w0 fun e w'=>e= .returned (.tuple #[.int .i64 (IS ((m+7)/8) k i), .int .i64 (F9 ((m+7)/8) k i)])∧Ai w0 w':=by
 have hS:=St.start w0
 have ha:1≤(m+7)/8:=by omega
 have ha8:(m+7)/8≤8:=by omega
 have HA:=AD (fun (w:World)=>KO w m n h)
 generalize hac:(m+7)/8=ac at*
 clear hac
 have q1:0≤k/ac:=Int.ediv_nonneg hk.1 (by omega)
 have q2:k/ac≤k:=Int.ediv_le_self ac hk.1
 have q3:=Int.emod_nonneg k (b:=ac) (by omega)
 have q4:=Int.emod_lt_of_pos k (b:=ac) (by omega)
 go_enter Tryz.func78,Tryz.ntmps78
 repeat' (first
  | refine X8 ?_|(refine AQ 3 ?_);(refine Ad ?_;apply CS (o:=⟨some 3,_,_,_,_,_⟩) hS 107 _ rfl _ rfl;clear hS;intro g3 w hS;refine AB ?_;go_step)|refine AG ?_;go_step|fail)
 refine AP [10] (fun w=>St w0 w [blk g3 [.int .i64 m, .int .i64 n]]) AA ?_
 replace hS:=hS.drew
 focus
  refine AZ 0 ?_
  refine eo 1 [2,3,4,7,10,11,12,15,16,17] ?_
  refine AZ 5 ?_
  refine bf 6 ?_
  refine AZ 8 ?_
  refine eo 9 [10,11,12,15,16,17] ?_
  refine AZ 13 ?_
  refine BZ 14 BN (V.rem rfl rfl (by omega) (by omega)) ?_;go_step
  refine Av 2 ?_
  refine AY (f:=97) rfl Tryz.call97 (HA.out _) ?_;rintro e w ⟨rfl,hE⟩;replace hS:=hS.ext hE;clear hE;refine ⟨_,rfl,?_⟩
  refine ⟨fun _ _=>hS.sub AV,?_⟩
  refine AI ?_
  go_step
  refine bf 3 ?_
  refine Zt 4 ?_
  refine Y9 7 ?_
  refine Av 10 ?_
  refine AY (f:=97) rfl Tryz.call97 (HA.out _) ?_;rintro e w ⟨rfl,hE⟩;replace hS:=hS.ext hE;clear hE;refine ⟨_,rfl,?_⟩
  refine ⟨fun h=>absurd (by decide) h,?_⟩
  refine AI ?_
  go_step
  refine BZ 11 BN (V.rem rfl rfl (by omega) (by omega)) ?_;go_step
  refine Zt 12 ?_
  refine Y9 15 ?_
  refine AZ 16 ?_
  refine AZ 17 ?_
  refine AE AA ?_ _
 all_goals
  repeat' (first
   | refine AG ?_;go_step|fail)
 all_goals (go_ret2;exact ⟨rfl,hS.1⟩)
def Ae(m n:Int):Nat:=(((m+7)/8)*((n+7)/8)).toNat
def XO(l:List Int):Bool:=Bt l 0 255
def Cl(l:List Int)(n:Nat)(m h:Int):Int:=if 1≤m∧m≤64∧1≤h∧h≤64 then if (n:Int)=m*h then if XO l then 0 else 1 else 4 else 1
def M0(l:List Int)(m h:Int)(x:Nat):Int:=AJ l ((min (IS ((m+7)/8) (x/64:Nat) (x%64:Nat)) (h-1))*m+min (F9 ((m+7)/8) (x/64:Nat) (x%64:Nat)) (m-1)).toNat-128
def Lp(l:List Int)(m h:Int):List Int:=Wl (Ae m h*64) (M0 l m h)
theorem VA(n:Int)(w:World):Calls Tryz.prog 77 #[.int .i64 n] w fun e w'=>e= .returned (.bool (decide (n<0)||decide (255<n)))∧w=w':=by
 go_enter Tryz.func77,Tryz.ntmps77
 repeat' (first
  | go_skip|((first|(with_reducible refine Io ?_)|(with_reducible refine QC ?_));(first|go_big_want|go_step);go_step)|((with_reducible refine Ak _ (.pick _ _ _) ?_);first|(refine A6 rfl AA ?_;go_step)|(refine A3 rfl AA ?_;go_step))|((refine AQ 4 ?_);(refine CG _ (V.lss rfl rfl) AA (fun hB=>?_) (fun hB=>?_)<;>(try exact AR)<;>go_step))|((with_reducible refine Ak _ (.binOp .gtr _ _ _ _) ?_);(refine An AA (V.gtr rfl rfl) ?_;go_step))|(refine AG ?_;go_step)|fail)
 all_goals (go_ret;exact ⟨DR (by simp;omega),rfl⟩)
def OF(w0:World)(l:List Int)(n:Nat)(m h:Int)(e:Ending)(w:World):Prop:=
 ∃ad c,e= .returned (.tuple #[.slice ad (if Cl l n m h=0 then Ae m h else 0) c, .int .i64 (Cl l n m h)])∧St w0 w [own 26 64 ad (if Cl l n m h=0 then Ae m h else 0) c ((if Cl l n m h=0 then Lp l m h else []).map (Value.int .i64))]
theorem QL{w0 w:World}{l:List Int}{n:Nat}{m h:Int}(E:Int)(h1:Cl l n m h=E)(h2:E≠0)(hE:Ai w0 w):OF w0 l n m h (.returned (.tuple #[.slice none 0 0, .int .i64 E])) w:=by
 refine ⟨none,0,?_,?_⟩
 ·rw [h1,if_neg h2]
 rw [if_neg (by rw [h1];exact h2),if_neg (by rw [h1];exact h2)];exact (St.of_ext hE).nil _ _
theorem RX(l:List Int):(l.any fun n=>decide (n<0)||decide (255<n))= !XO l:=by unfold XO Bt;simp
theorem K1(m h:Int)(hm:1≤m∧m≤64)(hh:1≤h∧h≤64)(k i:Int)(hk:0≤k)(hi:0≤i∧i<64):
 0≤IS ((m+7)/8) k i∧0≤F9 ((m+7)/8) k i∧F9 ((m+7)/8) k i<64∧0≤(min (IS ((m+7)/8) k i) (h-1))*m∧(min (IS ((m+7)/8) k i) (h-1))*m+min (F9 ((m+7)/8) k i) (m-1)<m*h:=by
 have q1:0≤k/((m+7)/8):=Int.ediv_nonneg hk (by omega)
 have q3:=Int.emod_nonneg k (b:=(m+7)/8) (by omega)
 have q4:=Int.emod_lt_of_pos k (b:=(m+7)/8) (by omega)
 unfold IS F9
 generalize k/((m+7)/8)=a at*
 generalize k%((m+7)/8)=b at*
 have r0:0≤min (a*8+i/8) (h-1):=by omega
 have r1:min (a*8+i/8) (h-1)≤h-1:=by omega
 generalize min (a*8+i/8) (h-1)=r at*
 have t1:0≤r*m:=Int.mul_nonneg r0 (by omega)
 have t2:r*m≤(h-1)*m:=Int.mul_le_mul_of_nonneg_right r1 (by omega)
 have t3:(h-1)*m=m*h-m:=by rw [Int.sub_mul,Int.one_mul,Int.mul_comm h m]
 refine ⟨by omega,by omega,by omega,by omega,by omega⟩
theorem M7(w0:World)(ad:Option Addr)(n c:Nat)(l:List Int)(m h:Int)(hm64: -9223372036854775808≤m∧m≤9223372036854775807)(hn:n≤9223372036854775807)(hv:Sl w0 1 (.slice ad n c) n (l.map (Value.int .i64)))(hcl:(callFunc 77:Array Value→Sem Next)=callFunc 77):
 Calls Tryz.prog 46 #[.slice ad n c, .int .i64 m, .int .i64 h] w0 (OF w0 l n m h):=by
 have hl:l.length=n:=by have:=hv.1;simpa using this
 have hS:=St.start w0
 have HC:=AD (fun (w:World)(hE:Ai w0 w)=>BC w (.slice ad n c) l (by unfold OG;rw [hl];exact hv.ext hE) 77 #[] (fun n=>decide (n<0)||decide (255<n)) Tryz.call77 (fun n=>VA n w))
 have HL:=AD hl
 clear hl hcl
 by_cases hok:1≤m∧m≤64∧1≤h∧h≤64
 case neg=>
  have HE:=AD (show Cl l n m h=1 by rw [Cl,if_neg hok])
  go_enter Tryz.func46,Tryz.ntmps46
  repeat' (first
   | (refine As 58 ?_);refine At AA Tryz.call58 (C4 _ m h) ?_;rintro e w ⟨rfl,hE⟩;replace hS:=hS.ext hE;clear hE;rw [if_neg hok];refine Ac ?_;go_step|refine X0 ?_|refine bU 17 ?_|refine X4 ?_|refine bH 8 ?_;clear hS;intro g8 w hS|refine bI ?_;clear hS;intro w hS|refine XE ?_|refine AG ?_;go_step|fail)
  go_ret2
  exact QL 1 HE.out (by decide) hS.1
 obtain ⟨k0,k1⟩:=ED m h 64 64 (by omega) (by omega)
 by_cases hnm:(n:Int)=m*h
 case neg=>
  have HE:=AD (show Cl l n m h=4 by rw [Cl,if_pos hok,if_neg hnm])
  go_enter Tryz.func46,Tryz.ntmps46
  repeat' (first
   | (refine As 58 ?_);refine At AA Tryz.call58 (C4 _ m h) ?_;rintro e w ⟨rfl,hE⟩;replace hS:=hS.ext hE;clear hE;rw [if_pos hok];refine Ac ?_;go_step|refine X0 ?_|refine bU 17 ?_|refine X4 ?_|refine XC ?_|refine Uh ?_|refine Ju ?_|refine bH 8 ?_;clear hS;intro g8 w hS|refine bI ?_;clear hS;intro w hS|refine XE ?_|refine AG ?_;go_step|fail)
  go_ret2
  exact QL 4 HE.out (by decide) hS.1
 replace hn:n≤100000:=by omega
 by_cases hs:XO l=true
 case neg=>
  have hs':(!XO l)=true:=by simpa using hs
  have HE:=AD (show Cl l n m h=1 by rw [Cl,if_pos hok,if_pos hnm,if_neg hs])
  go_enter Tryz.func46,Tryz.ntmps46
  repeat' (first
   | (refine As 58 ?_);refine At AA Tryz.call58 (C4 _ m h) ?_;rintro e w ⟨rfl,hE⟩;replace hS:=hS.ext hE;clear hE;rw [if_pos hok];refine Ac ?_;go_step|(refine As 76 ?_);refine At AA Tryz.call76 (HC.out _ hS.1) ?_;rintro e w' ⟨rfl,rfl⟩;rw [RX,hs'];refine Ac ?_;go_step|refine X0 ?_|refine bU 17 ?_|refine X4 ?_|refine XC ?_|refine Uh ?_|refine Ju ?_|refine bH 8 ?_;clear hS;intro g8 w hS|refine bI ?_;clear hS;intro w hS|refine XE ?_|refine AG ?_;go_step|fail)
  go_ret2
  exact QL 1 HE.out (by decide) hS.1
 have hs':(!XO l)=false:=by simpa using hs
 have HE:=AD (show Cl l n m h=0 by rw [Cl,if_pos hok,if_pos hnm,if_pos hs])
 have HS:=AD hs
 obtain ⟨kk0,kk1⟩:=ED ((m+7)/8) ((h+7)/8) 8 8 (by omega) (by omega)
 have kk2:0≤((m+7)/8)*((h+7)/8):=Int.mul_nonneg (by omega) (by omega)
 obtain ⟨K,hK⟩:∃K,Ae m h=K:=⟨_,rfl⟩
 have hK2:(m+7)/8*((h+7)/8)=(K:Int):=by rw [←hK,Ae];omega
 have hK3:K≤64:=by omega
 have HB:Hid (∀x:Nat,x<K*64→ -9223372036854775000≤M0 l m h x∧M0 l m h x≤9223372036854775000):=fun x hx=>by
  unfold M0
  have p0:=K1 m h ⟨hok.1,hok.2.1⟩ hok.2.2 (x/64:Nat) (x%64:Nat) (by omega) (by omega)
  have:=(BF l 0 255).1 hs ((min (IS ((m+7)/8) (x/64:Nat) (x%64:Nat)) (h-1))*m+min (F9 ((m+7)/8) (x/64:Nat) (x%64:Nat)) (m-1)).toNat (by rw [HL.out];omega)
  omega
 have HK:=AD hK
 clear hs hs' hK kk0 kk1 kk2
 obtain ⟨b0,off,rfl,hcell⟩:∃b off,ad=some ⟨b,off,none⟩∧∀k,k<n→w0.cell? ⟨b,off+k,none⟩=some (.int .i64 (AJ l k)):=by
  have h1:0<m*h:=Int.mul_pos (by omega) (by omega)
  have hvI:OG w0 (.slice ad n c) l:=by unfold OG;rw [HL.out];exact hv
  obtain ⟨a',c',e1,_,_,hI⟩:=hvI.open
  cases e1
  obtain ⟨b,off,e2,h3⟩:=hI 0 (by rw [HL.out];omega)
  exact ⟨b,off,e2,fun k hk=>h3 k (by rw [HL.out];exact hk)⟩
 have HCell:=AD hcell
 clear hcell
 go_enter Tryz.func46,Tryz.ntmps46
 repeat' (first
  | (refine As 58 ?_);refine At AA Tryz.call58 (C4 _ m h) ?_;rintro e w ⟨rfl,hE⟩;replace hS:=hS.ext hE;clear hE;rw [if_pos hok];refine Ac ?_;go_step|(refine As 76 ?_);refine At AA Tryz.call76 (HC.out _ hS.1) ?_;rintro e w' ⟨rfl,rfl⟩;rw [RX,HS.out];refine Ac ?_;go_step|(refine As 59 ?_);refine At AA Tryz.call59 (IJ _ m h (by omega) (by omega)) ?_;rintro e w ⟨rfl,hE⟩;replace hS:=hS.ext hE;clear hE;rw [hK2];refine Ac ?_;go_step|refine X0 ?_|refine bU 17 ?_|refine X4 ?_|refine XC ?_|refine Uh ?_|refine Ju ?_|refine XD ?_|refine bH 8 ?_;clear hS;intro g8 w hS|refine bI ?_;clear hS;intro w hS|refine XE ?_|refine Xd 36 ?_;clear hS;intro g36 w hS|refine AG ?_;go_step|fail)
 go_loopg [39] K (fun gk kv w=>∃(k:Nat) (o:List Int),gk+k=K∧kv= .int .i64 k∧(∀x,x<k*64→AJ o x=M0 l m h x)∧St w0 w [own 26 64 (some ⟨g36,0,none⟩) K K (o.map (Value.int .i64)),blk g8 [.int .i64 m, .int .i64 h]])
 case atStart=>exact ⟨0,_,rfl,rfl,fun x hx=>by omega,hS.sub AV⟩
 case round=>
  clear hS
  obtain ⟨k,o,hk,rfl,ho,hS⟩:=hrel
  have HO:=AD ho
  clear ho
  by_cases hlt:k<K
  ·obtain ⟨gk1,hgk1⟩:∃x,x=gk:=⟨_,rfl⟩
   subst hgk1
   repeat' (first
    | refine X0 ?_|refine X2 ?_|refine AG ?_;go_step|fail)
   go_loopg [42] 64 (fun gk kv w=>∃(i:Nat) (o:List Int),gk+i=64∧kv= .int .i64 i∧(∀x,x<k*64+i→AJ o x=M0 l m h x)∧St w0 w [own 26 64 (some ⟨g36,0,none⟩) K K (o.map (Value.int .i64)),blk g8 [.int .i64 m, .int .i64 h]])
   case atStart=>exact ⟨0,o,rfl,rfl,HO.out,hS.sub AV⟩
   case round=>
    clear hS HO
    obtain ⟨i,o,hi,rfl,ho,hS⟩:=hrel
    have HO:=AD ho
    clear ho
    by_cases hlt2:i<64
    ·obtain ⟨R,hR⟩:∃R,IS ((m+7)/8) (k:Int) (i:Int)=R:=⟨_,rfl⟩
     obtain ⟨C,hC⟩:∃C,F9 ((m+7)/8) (k:Int) (i:Int)=C:=⟨_,rfl⟩
     obtain ⟨p0,p1,p2,p3,p4⟩:=K1 m h ⟨hok.1,hok.2.1⟩ hok.2.2 (k:Int) (i:Int) (by omega) (by omega)
     have hV:M0 l m h (k*64+i)=AJ l ((min R (h-1))*m+min C (m-1)).toNat-128:=by
      unfold M0
      rw [show (k*64+i)/64=k by omega,show (k*64+i)%64=i by omega,hR,hC]
     rw [hR] at p0 p3 p4
     rw [hC] at p1 p2 p4
     have HR:=AD hR
     have HCc:=AD hC
     obtain ⟨q,hq⟩:∃q:Nat,(min R (h-1))*m+min C (m-1)=(q:Int):=⟨((min R (h-1))*m+min C (m-1)).toNat,by omega⟩
     rw [hq,Int.toNat_natCast] at hV
     have hc:=HCell.out q (by omega)
     have hx: -9223372036854775000≤AJ l q∧AJ l q≤9223372036854775000:=by
      have:=(BF l 0 255).1 (by have:=HS.out;simpa [XO] using this) q (by rw [HL.out];omega)
      omega
     have HV:=AD hV
     clear hR hC hV
     repeat' (first
      | (refine As 78 ?_);refine At AA Tryz.call78 (I5 _ m h (k:Int) (i:Int) (by omega) (by omega) (by omega)) ?_;rintro e w ⟨rfl,hE⟩;replace hS:=hS.ext hE;clear hE;rw [HR.out,HCc.out];refine Ac ?_;go_step|refine X0 ?_|refine X2 ?_|refine X6 ?_|refine XE ?_|refine AG ?_;go_step|fail)
     refine AP [20] (fun w=>St w0 w []) AA ?_
     replace hS:=hS.drew
     focus
      refine AZ 0 ?_
      refine AZ 1 ?_
      refine AZ 2 ?_
      refine AZ 3 ?_
      refine AZ 4 ?_
      refine AZ 5 ?_
      refine BZ 6 BN (V.subI rfl rfl (by omega)) ?_;go_step
      refine BZ 7 BN (V.min rfl rfl) ?_;go_step
      refine AZ 8 ?_
      refine Zt 9 ?_
      refine AZ 10 ?_
      refine AZ 11 ?_
      refine BZ 12 BN (V.subI rfl rfl (by omega)) ?_;go_step
      refine BZ 13 BN (V.min rfl rfl) ?_;go_step
      (refine BV 14 (.int _ ((q:Int))) Aj AA AA AA Be (V.as (V.addI rfl rfl (by omega)) (by omega)) AA ?_)
      go_step
      refine Y7 15 ?_
      refine Y8 16 [17,19,20] ?_
      refine BZ 17 BN (V.subI rfl rfl (by omega)) ?_;go_step
      refine BZ 18 BN (V.indexSl Tryz.underlying42 JY rfl rfl A9 (by omega) rfl A7) ?_;go_step
      refine ec 19 ?_
      refine Av 20 ?_
      refine dF ?_;clear hS;intro w hS
      refine AE AA ?_ _
     repeat' (first
      | refine X1 ?_|refine X7 ?_|refine AG ?_;go_step|fail)
     go_roundg (gk-1)
     case measure=>omega
     case rel=>
      have hol:=hS.ownLen (e:=26) AL
      rw [List.length_map,List.length_set] at hol
      refine ⟨i+1,_,by omega,by go_num,fun x hx=>?_,hS.sub AV⟩
      rw [CN o (k*64+i) x _ (by omega)]
      split
      ·rename_i e;rw [←e,HV.out]
      exact HO.out x (by omega)
    obtain rfl:i=64:=by omega
    repeat' (first
     | refine X1 ?_|refine X2 ?_|refine X7 ?_|refine AG ?_;go_step|fail)
    go_roundg (gk1-1)
    case measure=>omega
    case rel=>exact ⟨k+1,o,by omega,by go_num,fun x hx=>HO.out x (by have h9:x<(k+1)*64:=hx;omega),hS.sub AV⟩
  obtain rfl:k=K:=by omega
  have hol:=hS.ownLen (e:=26) AL
  rw [List.length_map] at hol
  repeat' (first
   | refine X0 ?_|refine X2 ?_|refine AG ?_;go_step|fail)
  go_ret2
  refine ⟨some ⟨g36,0,none⟩,k,?_,?_⟩
  ·rw [HE.out,if_pos rfl,HK.out];rfl
  rw [if_pos HE.out,if_pos HE.out,HK.out,Lp,HK.out,←Hs hol fun x hx=>HO.out x hx]
  exact hS.sub AV
def Cd(l:List Int):Bool:=Bt l (-40000) 40000
def Hf(n:Nat)(m h:Int):Int:=if 1≤m∧m≤64∧1≤h∧h≤64 then if n=Ae m h then 0 else 4 else 1
def EU(l:List Int)(n:Nat)(m h:Int):Int:=if 1≤m∧m≤64∧1≤h∧h≤64 then if n=Ae m h then if Cd l then 0 else 1 else 4 else 1
def EB(m:Int)(x:Nat):Int:=(x:Int)/m/8*((m+7)/8)+(x:Int)%m/8
def Gr(m:Int)(x:Nat):Int:=(x:Int)/m%8*8+(x:Int)%m%8
def Kk(l:List Int)(m:Int)(x:Nat):Int:=min (max (AJ l (EB m x*64+Gr m x).toNat+128) 0) 255
def DL(l:List Int)(m h:Int):List Int:=Wl (m*h).toNat (Kk l m)
theorem Yo(m k i:Int)(hm:1≤m∧m≤64)(hk:0≤k)(hi:0≤i∧i<64)(x:Nat)(hx:(x:Int)=IS ((m+7)/8) k i*m+F9 ((m+7)/8) k i)(hc:F9 ((m+7)/8) k i<m):EB m x=k∧Gr m x=i:=by
 have q1:0≤k/((m+7)/8):=Int.ediv_nonneg hk (by omega)
 have q3:=Int.emod_nonneg k (b:=(m+7)/8) (by omega)
 have q5:=Int.mul_ediv_add_emod k ((m+7)/8)
 have e1:(x:Int)/m=IS ((m+7)/8) k i:=by
  rw [hx,Int.add_comm,Int.add_mul_ediv_right _ _ (by omega),Int.ediv_eq_zero_of_lt (by unfold F9;omega) hc];omega
 have e2:(x:Int)%m=F9 ((m+7)/8) k i:=by
  rw [hx,Int.add_comm,Int.add_mul_emod_self_right,Int.emod_eq_of_lt (by unfold F9;omega) hc]
 unfold EB Gr
 rw [e1,e2]
 unfold IS F9
 rw [show (k/((m+7)/8)*8+i/8)/8=k/((m+7)/8) by omega,show (k%((m+7)/8)*8+i%8)/8=k%((m+7)/8) by omega,Int.mul_comm (k/((m+7)/8))]
 exact ⟨q5,by omega⟩
theorem O8(m k i:Int)(hm:1≤m∧m≤64)(x:Nat)(hk:EB m x=k)(hi:Gr m x=i):IS ((m+7)/8) k i=(x:Int)/m∧F9 ((m+7)/8) k i=(x:Int)%m:=by
 subst hk;subst hi
 have q3:=Int.emod_nonneg (x:Int) (b:=m) (by omega)
 have q4:=Int.emod_lt_of_pos (x:Int) (b:=m) (by omega)
 have q1:0≤(x:Int)/m:=Int.ediv_nonneg (by omega) (by omega)
 have e1:EB m x/((m+7)/8)=(x:Int)/m/8:=by
  unfold EB
  rw [Int.add_comm,Int.add_mul_ediv_right _ _ (by omega),Int.ediv_eq_zero_of_lt (by omega) (by omega)];omega
 have e2:EB m x%((m+7)/8)=(x:Int)%m/8:=by
  unfold EB
  rw [Int.add_comm,Int.add_mul_emod_self_right,Int.emod_eq_of_lt (by omega) (by omega)]
 unfold IS F9
 rw [e1,e2]
 unfold Gr
 exact ⟨by omega,by omega⟩
theorem GZ(m h:Int)(hm:1≤m∧m≤64)(hh:1≤h∧h≤64)(x:Nat)(hx:(x:Int)<m*h):0≤EB m x∧EB m x<Ae m h∧0≤Gr m x∧Gr m x<64∧(x:Int)/m<h∧(x:Int)%m<m:=by
 have q3:=Int.emod_nonneg (x:Int) (b:=m) (by omega)
 have q4:=Int.emod_lt_of_pos (x:Int) (b:=m) (by omega)
 have q1:0≤(x:Int)/m:=Int.ediv_nonneg (by omega) (by omega)
 have q2:(x:Int)/m<h:=Int.ediv_lt_of_lt_mul (by omega) (by rw [Int.mul_comm];exact hx)
 have r1:(x:Int)/m/8≤(h+7)/8-1:=by omega
 have r2:(x:Int)%m/8<(m+7)/8:=by omega
 have r3:(x:Int)/m/8*((m+7)/8)≤((h+7)/8-1)*((m+7)/8):=Int.mul_le_mul_of_nonneg_right r1 (by omega)
 have r4:((h+7)/8-1)*((m+7)/8)=(m+7)/8*((h+7)/8)-(m+7)/8:=by rw [Int.sub_mul,Int.one_mul,Int.mul_comm]
 have r5:0≤(x:Int)/m/8*((m+7)/8):=Int.mul_nonneg (by omega) (by omega)
 unfold EB Gr Ae
 refine ⟨by omega,by omega,by omega,by omega,q2,q4⟩
theorem MP(n:Int)(w:World):Calls Tryz.prog 128 #[.int .i64 n] w fun e w'=>e= .returned (.bool (decide (n< -40000)||decide (40000<n)))∧w=w':=by
 go_enter Tryz.func128,Tryz.ntmps128
 repeat' (first
  | go_skip|((first|(with_reducible refine Io ?_)|(with_reducible refine QC ?_));(first|go_big_want|go_step);go_step)|((with_reducible refine Ak _ (.pick _ _ _) ?_);first|(refine A6 rfl AA ?_;go_step)|(refine A3 rfl AA ?_;go_step))|((refine AQ 4 ?_);(refine CG _ (V.lss rfl rfl) AA (fun hB=>?_) (fun hB=>?_)<;>(try exact AR)<;>go_step))|((with_reducible refine Ak _ (.binOp .gtr _ _ _ _) ?_);(refine An AA (V.gtr rfl rfl) ?_;go_step))|(refine AG ?_;go_step)|fail)
 all_goals (go_ret;exact ⟨DR (by simp;omega),rfl⟩)
theorem KP(l:List Int):(l.any fun n=>decide (n< -40000)||decide (40000<n))= !Cd l:=by unfold Cd Bt;simp
def Dd(E0:Int)(l:List Int)(k:Nat):Int:=if E0=0 then if Cd (l.take (k*64)) then 0 else 1 else E0
theorem Es(l:List Int)(k n:Nat)(hl:l.length=n*64)(hk:k<n):Cd (l.take ((k+1)*64))=(Cd (l.take (k*64))&&Cd (Bi l 64 k)):=by
 have:l.take ((k+1)*64)=l.take (k*64)++Bi l 64 k:=by
  unfold Bi;rw [←List.take_add];congr 1;omega
 rw [this];unfold Cd Bt;simp
theorem O5{E0:Int}{l:List Int}{k n:Nat}(h:0=Dd E0 l k)(hl:l.length=n*64)(hk:k<n)(hs:Cd (Bi l 64 k)=true):0=Dd E0 l (k+1):=by
 unfold Dd at*
 rw [Es l k n hl hk,hs,Bool.and_true]
 exact h
theorem Qk{E0:Int}{l:List Int}{k n:Nat}(h:0=Dd E0 l k)(hl:l.length=n*64)(hk:k<n)(hs:Cd (Bi l 64 k)=false):1=Dd E0 l (k+1):=by
 unfold Dd at*
 rw [Es l k n hl hk,hs,Bool.and_false]
 split at h
 ·rename_i h0;rw [if_pos h0];rfl
 rename_i h0;exact absurd h.symm h0
theorem O6{E0 E:Int}{l:List Int}{k n:Nat}(h:E=Dd E0 l k)(h0:E≠0)(hl:l.length=n*64)(hk:k<n):E=Dd E0 l (k+1):=by
 unfold Dd at*
 rw [Es l k n hl hk]
 split at h
 ·rename_i h1
  rw [if_pos h1]
  split at h
  ·exact absurd h h0
  rename_i h2;rw [h];rw [if_neg];simp [h2]
 rename_i h1;rw [if_neg h1];exact h
theorem Ql{l:List Int}{n:Nat}{m h:Int}(h0:EU l n m h=0):(1≤m∧m≤64∧1≤h∧h≤64)∧n=Ae m h∧Cd l=true:=by
 unfold EU at h0
 split at h0
 ·rename_i h1
  split at h0
  ·rename_i h2
   split at h0
   ·rename_i h3;exact ⟨h1,h2,h3⟩
   exact absurd h0 (by decide)
  exact absurd h0 (by decide)
 exact absurd h0 (by decide)
def GK(w0:World)(l:List Int)(n:Nat)(m h:Int)(e:Ending)(w:World):Prop:=
 ∃ad c,e= .returned (.tuple #[.slice ad (if EU l n m h=0 then (m*h).toNat else 0) c, .int .i64 (EU l n m h)])∧St w0 w [own 3 1 ad (if EU l n m h=0 then (m*h).toNat else 0) c ((if EU l n m h=0 then DL l m h else []).map (Value.int .i64))]
theorem Yn{w0 w:World}{l:List Int}{n:Nat}{m h:Int}(E:Int)(h1:EU l n m h=E)(h2:E≠0)(hE:Ai w0 w):GK w0 l n m h (.returned (.tuple #[.slice none 0 0, .int .i64 E])) w:=by
 refine ⟨none,0,?_,?_⟩
 ·rw [h1,if_neg h2]
 rw [if_neg (by rw [h1];exact h2),if_neg (by rw [h1];exact h2)];exact (St.of_ext hE).nil _ _
theorem Vg(w0:World)(ad:Option Addr)(n c:Nat)(l:List Int)(m h:Int)(hm64: -9223372036854775808≤m∧m≤9223372036854775807)(hn:n≤9223372036854775807)(hv:Sl w0 64 (.slice ad n c) n (l.map (Value.int .i64)))(hbad:EU l n m h≠0):
 Calls Tryz.prog 95 #[.slice ad n c, .int .i64 m, .int .i64 h] w0 (GK w0 l n m h):=by
 have hl:l.length=n*64:=by have:=hv.1;simpa using this
 have hS:=St.start w0
 have HL:=AD hl
 clear hl
 have hEx:EU l n m h=Dd (Hf n m h) l n:=by
  unfold EU Dd Hf
  rw [show l.take (n*64)=l by rw [←HL.out];exact List.take_length]
  by_cases h1:1≤m∧m≤64∧1≤h∧h≤64
  ·simp only [if_pos h1]
   by_cases h2:n=Ae m h
   ·simp only [if_pos h2,if_true]
   simp only [if_neg h2];rfl
  simp only [if_neg h1];rfl
 have HEx:=AD hEx
 clear hEx
 obtain ⟨A,hA⟩:∃A:Int,(if 1≤m∧m≤64∧1≤h∧h≤64 then 0 else 1)=A:=⟨_,rfl⟩
 have HA:=AD hA
 have hA3:A=0∧Hf n m h=0∧(1≤m∧m≤64∧1≤h∧h≤64)∧n=Ae m h∨A=0∧Hf n m h=4∧(1≤m∧m≤64∧1≤h∧h≤64)∧n≠Ae m h∨A=1∧Hf n m h=1∧True∧True:=by
  unfold Hf
  by_cases h1:1≤m∧m≤64∧1≤h∧h≤64
  ·rw [if_pos h1] at hA
   rw [if_pos h1]
   by_cases h2:n=Ae m h
   ·rw [if_pos h2];exact .inl ⟨hA.symm,rfl,h1,h2⟩
   rw [if_neg h2];exact .inr (.inl ⟨hA.symm,rfl,h1,h2⟩)
  rw [if_neg h1] at hA
  rw [if_neg h1];exact .inr (.inr ⟨hA.symm,rfl,trivial,trivial⟩)
 clear hA
 have hK:∀(h1:1≤m∧m≤64∧1≤h∧h≤64),(m+7)/8*((h+7)/8)=((Ae m h:Nat):Int)∧Ae m h≤64:=fun h1=>by
  obtain ⟨kk0,kk1⟩:=ED ((m+7)/8) ((h+7)/8) 8 8 (by omega) (by omega)
  have kk2:0≤((m+7)/8)*((h+7)/8):=Int.mul_nonneg (by omega) (by omega)
  unfold Ae;omega
 rcases hA3 with ⟨a1,a2,a3,a4⟩|⟨a1,a2,a3,a4⟩|⟨a1,a2,a3,a4⟩
 all_goals
  try (have hKK:=hK a3;obtain ⟨hK1,hK2⟩:=hKK)
  clear hK
  subst a1
  have H0:=AD a2
  clear a2
  go_enter Tryz.func95,Tryz.ntmps95
  repeat' (first
   | (refine As 58 ?_);refine At AA Tryz.call58 (C4 _ m h) ?_;rintro e w ⟨rfl,hE⟩;replace hS:=hS.ext hE;clear hE;rw [HA.out];refine Ac ?_;go_step|(refine As 59 ?_);refine At AA Tryz.call59 (IJ _ m h (by omega) (by omega)) ?_;rintro e w ⟨rfl,hE⟩;replace hS:=hS.ext hE;clear hE;rw [hK1];refine Ac ?_;go_step|go_skip|refine X0 ?_|refine Iu ?_|refine H6 25 ?_ ?_<;>intro hB<;>(try exact AR)<;>go_step|refine bU 21 ?_|refine XD ?_|refine Ju ?_|refine bH 8 ?_;clear hS;intro g8 w hS|refine bI ?_;clear hS;intro w hS|refine XE ?_|refine AG ?_;go_step|fail)
  go_loopg [9,35] n (fun gk ev kv w=>∃(k:Nat) (E:Int),gk+k=n∧kv= .int .i64 k∧ev= .int .i64 E∧E=Dd (Hf n m h) l k∧St w0 w [blk g8 [.int .i64 m, .int .i64 h]])
  case atStart=>exact ⟨0,_,rfl,rfl,rfl,by rw [H0.out];simp [Dd,Cd,Bt],hS.sub AV⟩
  case round=>
   clear hS
   obtain ⟨k,E,hk,rfl,rfl,hE,hS⟩:=hrel
   have HE:=AD hE
   clear hE
   by_cases hlt:k<n
   ·have ls:Al (Bi l 64 k) 64:=CP l 64 k n HL.out hlt
    have HN:=AD (Es l k n HL.out hlt)
    by_cases hz:E=0
    ·subst hz
     cases hb:Cd (Bi l 64 k)
     all_goals
      have HB:=AD hb
      clear hb
      repeat' (first
       | (refine As 76 ?_);refine At AA Tryz.call76 (BC _ _ (Bi l 64 k) (hS.isl AL (by omega)) 128 #[] (fun n=>decide (n< -40000)||decide (40000<n)) Tryz.call128 (fun n=>MP n _)) ?_;rintro e w' ⟨rfl,rfl⟩;rw [KP,HB.out];refine Ac ?_;go_step|refine X0 ?_|refine Fi ?_|refine H6 40 ?_ ?_<;>intro hB<;>(try exact AR)<;>go_step|refine X2 ?_|refine bJ 37 ?_;intro b37 o37 hl37 hc37;go_step|refine bS ?_|refine X7 ?_|refine ae ?_|refine KK 11 ?_;clear hS;intro g11 w hS|refine Fd ?_;clear hS;intro w hS|refine AG ?_;go_step|fail)
      all_goals
       go_roundg (gk-1)
       case measure=>omega
       case rel=>
        exact ⟨k+1,_,by omega,by go_num,rfl,by first|exact O5 HE.out HL.out hlt HB.out|exact Qk HE.out HL.out hlt HB.out,hS.sub AV⟩
    repeat' (first
     | go_big_skip|((with_reducible refine Io ?_);(first|go_big_want|go_step);go_step)|((with_reducible refine Ak _ (.pick _ _ _) ?_);(refine A3 rfl AA ?_;go_step))|((refine AQ 40 ?_);(refine CG _ (V.eql rfl rfl) AA (fun hB=>?_) (fun hB=>?_)<;>(try exact AR)<;>go_step))|((with_reducible refine Ak _ (.binOp .lss _ _ _ _) ?_);(refine An AA (V.lss rfl rfl) ?_;go_step))|((refine AQ 37 ?_);(refine LX (by with_reducible assumption) Tryz.underlying42 JY rfl rfl A9 (by omega) AA ?_;intro b37 o37 hl37 hc37;go_step))|((with_reducible refine Ak _ (.binOp .add _ _ _ _) ?_);(refine An AA (V.addI rfl rfl (by omega)) ?_;go_step))|((with_reducible refine Ak _ (.load 26 _) ?_);(refine Ad ?_;apply EK hS 26 _ rfl _ _ rfl 64 (AO rfl) _;(case hl=>with_reducible assumption);(case hr=>with_reducible assumption);refine AB ?_;go_step))|((refine AQ 11 ?_);(refine Ad ?_;apply Mn (o:=⟨some 11,_,_,_,_,_⟩) hS 26 rfl (List.replicate 64 0) 64 List.length_replicate eX;clear hS;intro g11 w hS;refine AB ?_;go_step))|((with_reducible refine Ak _ (.store 26 _ _) ?_);(refine Ad ?_;apply Ms hS 26 _ _ rfl _ rfl 64 (AO rfl) _ _;(case hp=>exact AL);(case hy=>rfl);(case hm=>(repeat (first|assumption|exact Al.rep|apply Al.set|((with_reducible show Al (_::_) _);exact rfl))));(case hd=>exact rfl);clear hS;intro w hS))|(refine AG ?_;go_step)|fail)
    go_roundg (gk-1)
    case measure=>omega
    case rel=>exact ⟨k+1,_,by omega,by go_num,rfl,O6 HE.out hz HL.out hlt,hS.sub AV⟩
   obtain rfl:k=n:=by omega
   have hE:=HE.out.trans HEx.out.symm
   clear HE
   have hz:E≠0:=by rw [hE];exact hbad
   have HJ:=AD hE
   clear hE
   repeat' (first
    | refine X0 ?_|refine X2 ?_|refine X4 ?_|refine AG ?_;go_step|fail)
   go_ret2
   exact Yn E HJ.out.symm hz hS.1
def dL(q b:List Int):List Int:=Du (eg b) q
def QP(q l:List Int):Nat→List Int
 | 0=>[]
 | n+1=>QP q l n++dL q (Bi l 64 n)
def UJ(q b:List Int):List Int:=(Sn (OD b q)).map fun n=>min (max n (-40000)) 40000
def JG(q l:List Int):Nat→List Int
 | 0=>[]
 | n+1=>JG q l n++UJ q (Bi l 64 n)
theorem M8(q b:List Int)(hq:q.length=64):(dL q b).length=64:=GS _ _ (Fc _ _) hq
theorem KA(q b:List Int):(UJ q b).length=64:=by unfold UJ;rw [List.length_map];exact Fc _ _
theorem IE(q l:List Int)(hq:q.length=64):∀n,(QP q l n).length=n*64
 | 0=>by simp [QP]
 | n+1=>by rw [QP,List.length_append,IE q l hq n,M8 q _ hq];omega
theorem KB(q l:List Int):∀n,(JG q l n).length=n*64
 | 0=>by simp [JG]
 | n+1=>by rw [JG,List.length_append,KB q l n,KA];omega
theorem K8{a b:List Int}{n k:Nat}(ha:a.length=n*64)(hk:k<n):Bi (a++b) 64 k=Bi a 64 k:=by
 unfold Bi
 rw [List.drop_append_of_le_length (by omega),List.take_append_of_le_length (by rw [List.length_drop];omega)]
theorem PW{a b:List Int}{n:Nat}(ha:a.length=n*64)(hb:b.length=64):Bi (a++b) 64 n=b:=by
 unfold Bi
 rw [←ha,List.drop_left,List.take_of_length_le (by omega)]
theorem Rn(q l:List Int)(hq:q.length=64):∀n k,k<n→Bi (QP q l n) 64 k=dL q (Bi l 64 k)
 | 0,k,h=>by omega
 | n+1,k,h=>by
   rw [QP]
   by_cases hk:k<n
   ·rw [K8 (IE q l hq n) hk];exact Rn q l hq n k hk
   obtain rfl:k=n:=by omega
   exact PW (IE q l hq k) (M8 q _ hq)
theorem Sm(q l:List Int):∀n k,k<n→Bi (JG q l n) 64 k=UJ q (Bi l 64 k)
 | 0,k,h=>by omega
 | n+1,k,h=>by
   rw [JG]
   by_cases hk:k<n
   ·rw [K8 (KB q l n) hk];exact Sm q l n k hk
   obtain rfl:k=n:=by omega
   exact PW (KB q l k) (KA q _)
def Kx(m h:Int):List (List Int)→Int
 | []=>0
 | l::L=>if Cl l l.length m h=0 then Kx m h L else Cl l l.length m h
def Hk(m h:Int)(L:List (List Int)):Int:=if 1≤m∧m≤64∧1≤h∧h≤64 then if L.length=1∨L.length=3 then Kx m h L else 1 else 1
def z3(f:Int→Int→Int→Int)(a b c:List Int):List Int:=Wl a.length fun i=>f (AJ a i) (AJ b i) (AJ c i)
def DE(f1 f2 f3:Int→Int→Int→Int)(L:List (List Int)):List (List Int):=match L with
 | [a,b,c]=>[z3 f1 a b c,z3 f2 a b c,z3 f3 a b c]
 | _=>L
theorem JF(f1 f2 f3:Int→Int→Int→Int)(L:List (List Int)):(DE f1 f2 f3 L).length=L.length:=by
 unfold DE;split<;>rfl
def Lu(m h:Int)(q:List Int)(L:List (List Int)):Int:=if Hk m h L=0 then if H4 q then 0 else 1 else Hk m h L
def Na(m h:Int)(q:List Int):List (List Int)→List Int
 | []=>[]
 | l::L=>QP q (Lp l m h) (Ae m h)++Na m h q L
def P1(m h:Int)(q:List Int)(L:List (List Int)):List Int:=Na m h q (DE UE UC UD L)
theorem SN(m h:Int)(q:List Int)(hq:q.length=64):∀L:List (List Int),(Na m h q L).length=L.length*Ae m h*64
 | []=>by simp [Na]
 | l::L=>by
   rw [Na,List.length_append,IE q _ hq,SN m h q hq L,List.length_cons,Nat.add_mul,Nat.one_mul,Nat.add_mul]
   omega
theorem PN(m h:Int)(q:List Int)(l:List Int):∀L:List (List Int),Na m h q (L++[l])=Na m h q L++QP q (Lp l m h) (Ae m h)
 | []=>by simp [Na]
 | x::L=>by rw [List.cons_append,Na,Na,PN m h q l L,List.append_assoc]
def ZK(m h:Int)(q l:List Int)(n:Nat):Nat→List (List Int)
 | 0=>[]
 | k+1=>ZK m h q l n k++[DL (JG q ((l.drop (k*n*64)).take (n*64)) n) m h]
def Ov(m h:Int)(q l:List Int)(n k:Nat):List (List Int):=DE JU JT JS (ZK m h q l n k)
theorem SW(m h:Int)(q l:List Int)(n:Nat):∀k,(ZK m h q l n k).length=k
 | 0=>rfl
 | k+1=>by rw [ZK,List.length_append,SW m h q l n k];rfl
end Go.Proofs.YtohacgmhmbijmaaGreatDoor
namespace Go.Proofs.YtohacgmhmbijmaaGreatDoor
attribute [local irreducible] Region.wanted
open Go.ChangeShapes Go.WideShapes Go.ChangeAt Go.RowKit
set_option linter.unusedVariables false
set_option maxRecDepth 100000
set_option maxHeartbeats 8000000
theorem V5{H:Type}{enc:TypeId×Value→H}{P:Program}{W:World}{base:Nat}{t:TypeId}{v:Value}{d:DataW H}{p:List MemPlace}(ht:P.underlying t=some (.int .i64))
 (ho:Value.okWide P W .any base t v) (h:DataW.Trod enc P W 0 (fun _=>true) true t v d p):∃n:Int,v= .int .i64 n∧ -9223372036854775808≤n∧n≤9223372036854775807:=by
 obtain ⟨n,rfl,rfl,rfl,wn⟩:=open_int ht ho h
 refine ⟨n,rfl,?_⟩
 have h:=wn
 simp only [Lit.wf,Bool.and_eq_true,decide_eq_true_eq] at h
 have h1:IntKind.i64.min= -9223372036854775808:=rfl
 have h2:IntKind.i64.max=9223372036854775807:=rfl
 omega
theorem Yw{P:Program}{W:World}{base:Nat}{u:TypeId}{v:Value}(hu:P.underlying u=some (.int .i64))(h:Cell.okWide P W .any base u v):
 ∃n:Int,v= .int .i64 n∧ -9223372036854775808≤n∧n≤9223372036854775807:=by
 unfold Cell.okWide at h
 rw [hu] at h
 dsimp only at h
 unfold Cell.ok at h
 rw [hu] at h
 cases v<;>simp only at h
 case int k n=>
  obtain ⟨rfl,h⟩:=h
  refine ⟨n,rfl,?_⟩
  simp only [IntKind.has] at h
  have h1:IntKind.i64.min= -9223372036854775808:=rfl
  have h2:IntKind.i64.max=9223372036854775807:=rfl
  simp only [h1,h2] at h
  simpa using h
theorem cE{P:Program}{W:World}{base:Nat}{t:TypeId}{v:Value}{ts:List TypeId}(hd:(match P.underlying t with|some (.struct _)|some (.array _ _)=>true|_=>false)=true)
 (hts:P.cellTypes P.depth t=some ts) (hall:∀u∈ts,P.underlying u=some (.int .i64)) (ho:Value.okWide P W .any base t v):
 ∃l:List Int,l.length=P.cellsOf t∧v= .agg (iv l)∧∀i,i<l.length→ -9223372036854775808≤AJ l i∧AJ l i≤9223372036854775807:=by
 have h':∃cs,v= .agg cs∧cs.size=P.cellsOf t∧Row.okWide P W .any base t cs:=by
  unfold Value.okWide at ho
  split at ho
  ·exact ho
  ·exact ho
  rename_i h1 h2
  split at hd
  ·rename_i x h3;exact absurd h3 (h1 x)
  ·rename_i x y h3;exact absurd h3 (h2 x y)
  cases hd
 obtain ⟨cs,rfl,hsz,ts',hts',_,hcells⟩:=h'
 rw [hts] at hts'
 cases hts'
 have key:∀i,i<cs.size→∃n:Int,cs[i]? =some (.int .i64 n)∧ -9223372036854775808≤n∧n≤9223372036854775807:=by
  intro i hi
  obtain ⟨u,hu,hc⟩:=hcells i cs[i] (by simp [hi])
  obtain ⟨n,hn,hb⟩:=Yw (hall u (List.mem_of_getElem? hu)) hc
  exact ⟨n,by simp [hi,hn],hb⟩
 refine ⟨(List.range cs.size).map fun i=>intOf (cs[i]?.getD undef),by simp [hsz],?_,?_⟩
 ·congr 1
  apply Array.ext_getElem?
  intro i
  by_cases hi:i<cs.size
  ·obtain ⟨n,hn,_⟩:=key i hi
   simp only [iv,List.map_map,List.getElem?_toArray,List.getElem?_map,List.getElem?_range hi,Option.map_some,Function.comp]
   rw [hn];rfl
  simp [iv,List.getElem?_eq_none (show (List.range cs.size).length≤i by simp;omega)]
  omega
 intro i hi
 have hi':i<cs.size:=by simpa using hi
 obtain ⟨n,hn,hb⟩:=key i hi'
 have e:AJ ((List.range cs.size).map fun i=>intOf (cs[i]?.getD undef)) i=n:=by
  simp only [AJ,List.getD,List.getElem?_map,List.getElem?_range hi',Option.map_some,Option.getD_some]
  rw [hn];rfl
 rw [e];exact hb
end Go.Proofs.YtohacgmhmbijmaaGreatDoor
namespace Go.Proofs.YtohacgmhmbijmaaGreatDoor
attribute [local irreducible] Region.wanted
open Go.ChangeShapes Go.WideShapes Go.ChangeAt Go.RowKit Go.Deep
set_option linter.unusedVariables false
set_option maxRecDepth 100000
set_option maxHeartbeats 8000000
def GL(P:Program)(k:IntKind):Nat→TypeId→Bool
 | 0,_=>false
 | d+1,t=>match P.underlying t with
   | some (.int k')=>decide (k'=k)&&P.cellsOf t==1
   | some (.array n e)=>GL P k d e&&P.cellsOf t==n*P.cellsOf e
   | some (.struct fs)=>fs.toList.all (fun f=>GL P k d f.type)&&(List.range (P.cellsOf t)).all fun j=>fs.toList.any fun f=>decide (f.offset≤j)&&decide (j<f.offset+P.cellsOf f.type)
   | _=>false
theorem UG{H:Type}{enc:TypeId×Value→H}{P:Program}{W:World}{base:Nat}{sp:Nat→Bool}{held:Bool}(k:IntKind):∀(d:Nat)(t:TypeId),GL P k d t=true→∀(fuel:Nat)(cs:List Value)(x:DataW H×List MemPlace),
 DataW.trod enc P W base sp held fuel t cs=some x→cs.length=P.cellsOf t∧∀j,j<cs.length→∃n,cs[j]? =some (.int k n)∧(Lit.int k n).wf=true:=by
 intro d
 induction d with
 | zero=>intro t h;simp [GL] at h
 | succ d ih=>
   intro t ht fuel cs x h
   unfold GL at ht
   split at ht
   ·rename_i k' hu
    simp only [Bool.and_eq_true,decide_eq_true_eq,beq_iff_eq] at ht
    obtain ⟨rfl,hc⟩:=ht
    obtain ⟨n,rfl,_,hw⟩:=DataW.trod_int hu h
    refine ⟨by simp [hc],fun j hj=>?_⟩
    obtain rfl:j=0:=by simp at hj;omega
    exact ⟨n,rfl,hw⟩
   ·rename_i n e hu
    simp only [Bool.and_eq_true,beq_iff_eq] at ht
    obtain ⟨he,hc⟩:=ht
    obtain ⟨xs,m,_,_,hl,hxl,hf⟩:=DataW.trod_array hu h
    refine ⟨hl,fun j hj=>?_⟩
    rw [hl,hc] at hj
    have hcp:0<P.cellsOf e:=by
     rcases Nat.eq_zero_or_pos (P.cellsOf e) with h0|h0
     ·rw [h0] at hj;simp at hj
     exact h0
    have hjn:j/P.cellsOf e<n:=by rw [Nat.div_lt_iff_lt_mul hcp];exact hj
    have hfe:=hf (j/P.cellsOf e) hjn
    rw [List.getElem?_eq_getElem (by omega)] at hfe
    obtain ⟨hl2,hv⟩:=ih e he m _ _ hfe
    have hm:=Nat.mod_lt j hcp
    obtain ⟨v,hv1,hv2⟩:=hv (j%P.cellsOf e) (by rw [hl2];exact hm)
    refine ⟨v,?_,hv2⟩
    rw [List.getElem?_take,if_pos hm,List.getElem?_drop] at hv1
    rwa [show j/P.cellsOf e*P.cellsOf e+j%P.cellsOf e=j by rw [Nat.mul_comm];exact Nat.div_add_mod j _] at hv1
   ·rename_i fs hu
    simp only [Bool.and_eq_true] at ht
    obtain ⟨he,hc⟩:=ht
    obtain ⟨xs,m,_,_,hl,hxl,hf⟩:=DataW.trod_struct hu h
    refine ⟨hl,fun j hj=>?_⟩
    rw [List.all_eq_true] at he hc
    have h1:=hc j (List.mem_range.2 (by omega))
    rw [List.any_eq_true] at h1
    obtain ⟨f,hfm,h1⟩:=h1
    simp only [Bool.and_eq_true,decide_eq_true_eq] at h1
    obtain ⟨i,hi,hfi⟩:=List.getElem_of_mem hfm
    have hi':i<fs.size:=by simpa using hi
    have hfe:=hf i f (by rw [Array.getElem?_eq_getElem hi'];simpa using hfi)
    rw [List.getElem?_eq_getElem (by omega)] at hfe
    obtain ⟨hl2,hv⟩:=ih f.type (he f hfm) m _ _ hfe
    obtain ⟨v,hv1,hv2⟩:=hv (j-f.offset) (by rw [hl2];omega)
    refine ⟨v,?_,hv2⟩
    rw [List.getElem?_take,if_pos (by omega),List.getElem?_drop,show f.offset+(j-f.offset)=j by omega] at hv1
    exact hv1
   cases ht
theorem Qx{H:Type}{enc:TypeId×Value→H}{P:Program}{W:World}{t e:TypeId}{v:Value}{x:DataW H×List MemPlace}{fuel:Nat}(k:IntKind)(ht:P.underlying t=some (.slice e))(dp:Nat)(he:GL P k dp e=true)
 (s:Nat) (hs:P.cellsOf e=s) (hs0:0<s) (h:DataW.trod enc P W 0 (fun _=>true) true fuel t [v]=some x):
 ∃(n:Nat) (ns:List Int),ns.length=n*s∧Sl W s v n (ns.map (Value.int k))∧∀i,i<ns.length→(Lit.int k (AJ ns i)).wf=true:=by
 rcases open_slice ht h with ⟨h0,_⟩|⟨a,len,cap,m,n,D,Pl,hcs,hb,hl,hm,hmm,_,hx⟩
 ·obtain rfl:v= .slice none 0 0:=by simpa using h0
  exact ⟨0,[],by simp,Sl.nil W s,fun i hi=>by simp at hi⟩
 obtain rfl:v= .slice (some a) len cap:=by simpa using hcs
 have hmc:m=cap:=by simpa using hmm
 subst hmc
 have each:∀i,i<len*s→∃q:Int,W.cell? (a.add i)=some (.int k q)∧(Lit.int k q).wf=true:=by
  intro i hi
  have hsp:0<s:=by
   rcases Nat.eq_zero_or_pos s with h0|h0
   ·rw [h0] at hi;simp at hi
   exact h0
  have hil:i/s<len:=by rw [Nat.div_lt_iff_lt_mul hsp];exact hi
  obtain ⟨cs',h1,h2⟩:=hx (i/s) (by omega)
  rw [hs] at h1
  obtain ⟨hl3,hv3⟩:=UG k dp e he _ _ _ h2
  obtain ⟨_,hl4,hc4⟩:=World.cells?_some h1
  have hm3:=Nat.mod_lt i hsp
  obtain ⟨q,hq1,hq2⟩:=hv3 (i%s) (by rw [hl4];exact hm3)
  refine ⟨q,?_,hq2⟩
  rw [←hq1,←hc4 (i%s) hm3,Go.Deep.add_add,show i/s*s+i%s=i by rw [Nat.mul_comm];exact Nat.div_add_mod i _]
 obtain ⟨f,hf⟩:=choose_lt each
 refine ⟨len,(List.range (len*s)).map f,by simp,⟨by simp,some a,m,rfl,hl,hm,?_⟩,?_⟩
 ·rcases Nat.eq_zero_or_pos (len*s) with h0|h0
  ·rcases Nat.eq_zero_or_pos len with h1|h1
   ·exact .inl h1
   exact absurd h0 (by have:=Nat.mul_pos h1 hs0;omega)
  refine .inr ?_
  have hc0:=(hf 0 h0).1
  have hspot:a.spot=none:=by
   rw [show a.add 0=a from rfl] at hc0
   unfold World.cell? at hc0
   split at hc0
   ·split at hc0
    ·cases hc0
    rename_i hh;simpa using hh
   cases hc0
  refine ⟨a.block,a.off,by cases a;simp at hspot;simp [hspot],fun i hi=>?_⟩
  have hci:=(hf i hi).1
  have haddr:a.add i=⟨a.block,a.off+i,none⟩:=by
   unfold Addr.add
   split
   ·rename_i h0;subst h0;cases a;simp at hspot;simp [hspot]
   rfl
  rw [haddr] at hci
  rw [hci]
  simp [hi]
 intro i hi
 have hi':i<len*s:=by simpa using hi
 have:=(hf i hi').2
 simpa [AJ,List.getD,hi'] using this
theorem cC{P:Program}{W:World}{base:Nat}{t:TypeId}{v:Value}(hd:(match P.underlying t with|some (.struct _)|some (.array _ _)=>true|_=>false)=true)(ho:Value.okWide P W .any base t v):∃cs,v= .agg cs:=by
 unfold Value.okWide at ho
 split at ho
 ·obtain ⟨cs,h,_⟩:=ho;exact ⟨cs,h⟩
 ·obtain ⟨cs,h,_⟩:=ho;exact ⟨cs,h⟩
 rename_i h1 h2
 split at hd
 ·rename_i x h3;exact absurd h3 (h1 x)
 ·rename_i x y h3;exact absurd h3 (h2 x y)
 cases hd
theorem LP(n:Int):(Lit.int .i64 n).wf=true↔ -9223372036854775808≤n∧n≤9223372036854775807:=by
 simp only [Lit.wf,Bool.and_eq_true,decide_eq_true_eq]
 have h1:IntKind.i64.min= -9223372036854775808:=rfl
 have h2:IntKind.i64.max=9223372036854775807:=rfl
 rw [h1,h2]
end Go.Proofs.YtohacgmhmbijmaaGreatDoor
namespace Go.Proofs.YtohacgmhmbijmaaGreatDoor
attribute [local irreducible] Region.wanted
set_option linter.unusedVariables false
set_option maxRecDepth 100000
set_option maxHeartbeats 8000000
def E7(l:List Bool):Nat:=l.foldl (fun a b=>2*a+b.toNat) 0
theorem Vx(l:List Bool):∀a,l.foldl (fun a b=>2*a+b.toNat) a=a*2^l.length+E7 l:=by
 induction l with
 | nil=>intro a;simp [E7]
 | cons b l ih=>
   intro a
   simp only [E7,List.foldl_cons,List.length_cons]
   rw [ih,ih (2*0+b.toNat),Nat.pow_succ,Nat.add_mul,Nat.mul_assoc,Nat.mul_zero,Nat.zero_add]
   have e:a*(2^l.length*2)=2*(a*2^l.length):=by rw [←Nat.mul_assoc,Nat.mul_comm]
   rw [e]
   omega
theorem De(xs ys:List Bool):E7 (xs++ys)=E7 xs*2^ys.length+E7 ys:=by
 unfold E7
 rw [List.foldl_append]
 exact Vx ys _
theorem IO(xs:List Bool)(b:Bool):E7 (xs++[b])=2*E7 xs+b.toNat:=by
 rw [De];simp [E7,Nat.mul_comm]
theorem Hj(l:List Bool):E7 l<2^l.length:=by
 induction l with
 | nil=>simp [E7]
 | cons b l ih=>
   have h:=De [b] l
   simp only [List.singleton_append] at h
   rw [h,List.length_cons,Nat.pow_succ]
   have:E7 [b]≤1:=by cases b<;>simp [E7]
   have h2:E7 [b]*2^l.length≤1*2^l.length:=Nat.mul_le_mul_right _ this
   omega
def Ax:Nat→Nat→List Bool
 | 0,_=>[]
 | w+1,v=>Ax w (v/2)++[v%2==1]
theorem Ao(w:Nat):∀v,(Ax w v).length=w:=by
 induction w with
 | zero=>intro v;rfl
 | succ w ih=>intro v;simp [Ax,ih]
theorem Ks(w:Nat):∀v,E7 (Ax w v)=v%2^w:=by
 induction w with
 | zero=>intro v;simp [Ax,E7,Nat.mod_one]
 | succ w ih=>
   intro v
   simp only [Ax,IO,ih]
   have h1:(v%2==1).toNat=v%2:=by
    rcases Nat.mod_two_eq_zero_or_one v with h|h<;>simp [h]
   rw [h1,Nat.pow_succ,Nat.mul_comm (2^w) 2,Nat.mod_mul]
   omega
theorem Do(w v:Nat)(h:v<2^w):E7 (Ax w v)=v:=by rw [Ks,Nat.mod_eq_of_lt h]
theorem FL(l:List Bool):Ax l.length (E7 l)=l:=by
 generalize hn:l.length=n
 induction n generalizing l with
 | zero=>have:=List.eq_nil_of_length_eq_zero hn;subst this;rfl
 | succ n ih=>
   obtain ⟨l,b,rfl⟩:∃m b,l=m++[b]:=by
    have hne:l≠[]:=by intro h;subst h;simp at hn
    exact ⟨l.dropLast,l.getLast hne,(List.dropLast_concat_getLast hne).symm⟩
   rw [IO,Ax]
   have h1:(2*E7 l+b.toNat)/2=E7 l:=by cases b<;>simp<;>omega
   have h2:((2*E7 l+b.toNat)%2==1)=b:=by cases b<;>simp<;>omega
   rw [h1,h2,ih l (by simpa using hn)]
theorem Ys(xs ys:List Bool)(hl:xs.length=ys.length)(h:E7 xs=E7 ys):xs=ys:=by
 rw [←FL xs,←FL ys,hl,h]
theorem Kt(l:List Bool)(i n:Nat)(h:i+n≤l.length):E7 ((l.drop i).take n)=E7 l/2^(l.length-i-n)%2^n:=by
 have e1:l=l.take i++((l.drop i).take n++l.drop (i+n)):=by
  rw [←List.drop_drop,List.take_append_drop,List.take_append_drop]
 have hl3:(l.drop (i+n)).length=l.length-i-n:=by simp;omega
 have hl2:((l.drop i).take n).length=n:=by simp;omega
 have hlt:=Hj (l.drop (i+n))
 have hlt2:=Hj ((l.drop i).take n)
 rw [hl3] at hlt
 rw [hl2] at hlt2
 conv=>rhs;rw [e1]
 have hl0:(l.take i++((l.drop i).take n++l.drop (i+n))).length=l.length:=by rw [←e1]
 rw [hl0,De,De,List.length_append,hl2,hl3]
 generalize E7 (l.drop (i+n))=z at*
 generalize E7 ((l.drop i).take n)=y at*
 generalize E7 (l.take i)=x at*
 generalize l.length-i-n=m at*
 have hp:0<2^m:=Nat.two_pow_pos _
 rw [Nat.pow_add,←Nat.mul_assoc,←Nat.add_assoc,←Nat.add_mul,Nat.add_comm,Nat.add_mul_div_right _ _ hp,Nat.div_eq_of_lt hlt,Nat.zero_add,Nat.add_comm,Nat.add_mul_mod_self_right,Nat.mod_eq_of_lt hlt2]
def CJ:Nat→List Bool→List Nat
 | 0,_=>[]
 | k+1,bs=>E7 (bs.take 8)::CJ k (bs.drop 8)
theorem Tu(k:Nat):∀bs,(CJ k bs).length=k:=by
 induction k with
 | zero=>intro;rfl
 | succ k ih=>intro;simp [CJ,ih]
theorem Qy(k:Nat):∀bs:List Bool,CJ (k+1) bs=CJ k bs++[E7 ((bs.drop (8*k)).take 8)]:=by
 induction k with
 | zero=>intro bs;simp [CJ]
 | succ k ih=>
   intro bs
   rw [CJ,ih,CJ,List.cons_append,List.drop_drop]
   congr 3
   rw [show 8+8*k=8*(k+1) by omega]
theorem NX(k:Nat):∀(bs cs:List Bool),8*k≤bs.length→CJ k (bs++cs)=CJ k bs:=by
 induction k with
 | zero=>intros;rfl
 | succ k ih=>
   intro bs cs h
   rw [CJ,CJ,List.take_append_of_le_length (by omega),List.drop_append_of_le_length (by omega),ih _ _ (by simp;omega)]
theorem V9(k:Nat):∀bs,∀x∈CJ k bs,x<256:=by
 induction k with
 | zero=>intro bs x hx;simp [CJ] at hx
 | succ k ih=>
   intro bs x hx
   rw [CJ,List.mem_cons] at hx
   rcases hx with rfl|hx
   ·have h:=Hj (bs.take 8)
    have h2:(bs.take 8).length≤8:=by simp;omega
    have h3:2^(bs.take 8).length≤2^8:=Nat.pow_le_pow_right (by omega) h2
    omega
   exact ih _ x hx
def BE(l:List Nat):List Bool:=l.flatMap (Ax 8)
theorem CR(l:List Nat):(BE l).length=8*l.length:=by
 induction l with
 | nil=>rfl
 | cons x l ih=>simp [BE,Ao] at*;omega
theorem N0(k:Nat):∀bs:List Bool,8*k≤bs.length→BE (CJ k bs)=bs.take (8*k):=by
 induction k with
 | zero=>intro bs _;rfl
 | succ k ih=>
   intro bs h
   have h8:(bs.take 8).length=8:=by simp;omega
   have e:Ax 8 (E7 (bs.take 8))=bs.take 8:=by
    have:=FL (bs.take 8)
    rwa [h8] at this
   simp only [CJ,BE,List.flatMap_cons] at*
   rw [e,ih _ (by simp;omega),show 8*(k+1)=8+8*k by omega,List.take_add]
theorem IQ(l:List Nat)(h:∀x∈l,x<256):CJ l.length (BE l)=l:=by
 induction l with
 | nil=>rfl
 | cons x l ih=>
   have hx:=h x (by simp)
   simp only [BE,List.flatMap_cons,List.length_cons,CJ] at*
   rw [List.take_left' (Ao 8 x),List.drop_left' (Ao 8 x),Ks,ih (fun y hy=>h y (by simp [hy])),Nat.mod_eq_of_lt (by omega)]
def Bc(bs:List Bool):List Bool:=List.replicate ((8-bs.length%8)%8) true
def bytesOf(bs:List Bool):List Nat:=CJ ((bs.length+7)/8) (bs++Bc bs)
theorem F8(bs:List Bool):(bs++Bc bs).length=8*((bs.length+7)/8):=by
 simp [Bc];omega
theorem En(bs:List Bool):(bytesOf bs).length=(bs.length+7)/8:=Tu _ _
theorem GJ(bs:List Bool):BE (bytesOf bs)=bs++Bc bs:=by
 rw [bytesOf,N0 _ _ (by rw [F8];exact Nat.le_refl _),←F8,List.take_length]
theorem EO(bs:List Bool):∀x∈bytesOf bs,x<256:=V9 _ _
theorem KS(w v i:Nat)(h:i<w):(Ax w v)[i]? =some (v/2^(w-1-i)%2==1):=by
 induction w generalizing v i with
 | zero=>omega
 | succ w ih=>
   rw [Ax]
   by_cases hi:i<w
   ·rw [List.getElem?_append_left (by rw [Ao];exact hi),ih _ _ hi,Nat.div_div_eq_div_mul,←Nat.pow_succ']
    rw [show (w-1-i).succ=w+1-1-i by omega]
   have:i=w:=by omega
   subst this
   rw [List.getElem?_append_right (by rw [Ao];exact Nat.le_refl _),Ao]
   simp
theorem RH(l:List Nat)(i:Nat)(h:i<8*l.length):(BE l)[i]? =some (l.getD (i/8) 0/2^(7-i%8)%2==1):=by
 induction l generalizing i with
 | nil=>simp at h
 | cons x l ih=>
   simp only [BE,List.flatMap_cons] at*
   by_cases hi:i<8
   ·rw [List.getElem?_append_left (by rw [Ao];exact hi),KS 8 x i hi]
    have h1:i/8=0:=by omega
    have h2:i%8=i:=by omega
    simp [h1,h2]
   rw [List.getElem?_append_right (by rw [Ao];omega),Ao,ih (i-8) (by simp at h;omega)]
   have h1:i/8=(i-8)/8+1:=by omega
   have h2:(i-8)%8=i%8:=by omega
   rw [h1,h2,List.getD_cons_succ]
def nx(c:Nat→Nat):Nat→Nat
 | 0=>0
 | k+1=>2*nx c k+c k
def GQ(c:Nat→Nat):Nat→List (Nat×Nat)
 | 0=>[]
 | k+1=>GQ c k++(List.range (c k)).map fun j=>(k+1,2*nx c k+j)
def sm(c:Nat→Nat):Nat→Nat
 | 0=>0
 | k+1=>sm c k+c k
theorem FO(c:Nat→Nat):∀k,(GQ c k).length=sm c k
 | 0=>rfl
 | k+1=>by simp [GQ,sm,FO c k]
def XQ(x:Nat×Nat):Nat:=x.2*2^(16-x.1)
def Zh(x:Nat×Nat):Nat:=(x.2+1)*2^(16-x.1)
inductive Fg:Nat→List (Nat×Nat)→Nat→Prop
 | nil {a:Nat}:Fg a [] a
 | cons {x:Nat×Nat} {l:List (Nat×Nat)} {b:Nat} (h:Fg (Zh x) l b):Fg (XQ x) (x::l) b
theorem Fg.append{a b c:Nat}{l m:List (Nat×Nat)}(h:Fg a l b)(k:Fg b m c):Fg a (l++m) c:=by
 induction h with
 | nil=>exact k
 | cons h ih=>exact .cons (ih k)
theorem Pj(k s:Nat):∀n a,Fg ((s+a)*2^(16-(k+1))) ((List.range' a n).map fun j=>(k+1,s+j)) ((s+a+n)*2^(16-(k+1)))
 | 0,a=>by simpa using Fg.nil
 | n+1,a=>by
   have h:=Pj k s n (a+1)
   simp only [List.range'_succ,List.map_cons]
   refine Fg.cons (x:=(k+1,s+a)) ?_
   rw [show s+a+(n+1)=s+(a+1)+n by omega]
   exact h
theorem LK(c:Nat→Nat):∀k,k≤16→Fg 0 (GQ c k) (nx c k*2^(16-k))
 | 0,_=>by simpa [GQ,nx] using Fg.nil
 | k+1,h=>by
   have h1:=LK c k (by omega)
   have h2:=Pj k (2*nx c k) (c k) 0
   have e:nx c k*2^(16-k)=(2*nx c k+0)*2^(16-(k+1)):=by
    rw [show 16-k=(16-(k+1))+1 by omega,Nat.pow_succ,Nat.add_zero (2*_),Nat.mul_comm 2 (nx c k),Nat.mul_assoc (nx c k) 2,Nat.mul_comm 2]
   rw [e] at h1
   rw [GQ,nx,List.range_eq_range']
   exact h1.append h2
theorem Fg.le{a b:Nat}{l:List (Nat×Nat)}(h:Fg a l b):a≤b:=by
 induction h with
 | nil=>omega
 | @cons x l b h ih=>
   have:XQ x≤Zh x:=Nat.mul_le_mul_right _ (by omega)
   omega
theorem Fg.mem{a b:Nat}{l:List (Nat×Nat)}(h:Fg a l b):∀x∈l,a≤XQ x∧Zh x≤b:=by
 induction h with
 | nil=>intro x hx;cases hx
 | @cons y l b h ih=>
   intro x hx
   rcases List.mem_cons.1 hx with rfl|hx
   ·exact ⟨Nat.le_refl _,h.le⟩
   have h1:=ih x hx
   have:XQ y≤Zh y:=Nat.mul_le_mul_right _ (by omega)
   omega
theorem Fg.pair{a b:Nat}{l:List (Nat×Nat)}(h:Fg a l b):l.Pairwise fun x y=>Zh x≤XQ y:=by
 induction h with
 | nil=>exact List.Pairwise.nil
 | @cons x l b h ih=>exact List.Pairwise.cons (fun y hy=>(h.mem y hy).1) ih
theorem KU(c:Nat→Nat):∀k x,x∈GQ c k→1≤x.1∧x.1≤k
 | 0,x,h=>by cases h
 | k+1,x,h=>by
   rcases List.mem_append.1 h with h|h
   ·have:=KU c k x h;omega
   obtain ⟨j,_,rfl⟩:=List.mem_map.1 h
   exact ⟨by simp,by simp⟩
def MW(c:Nat→Nat):Prop:=∀k,k<16→nx c (k+1)<2^(k+1)
theorem Vy(c:Nat→Nat)(k:Nat):∀d,nx c k*2^d≤nx c (k+d)
 | 0=>by simp
 | d+1=>by
   have:=Vy c k d
   rw [←Nat.add_assoc,nx,Nat.pow_succ,←Nat.mul_assoc];omega
theorem Gg(c:Nat→Nat):MW c↔nx c 16<65536:=by
 constructor
 ·intro h;exact h 15 (by omega)
 intro h k hk
 have h1:=Vy c (k+1) (15-k)
 rw [show k+1+(15-k)=16 by omega] at h1
 have h2:nx c (k+1)*2^(15-k)<2^(k+1)*2^(15-k):=by
  rw [←Nat.pow_add,show k+1+(15-k)=16 by omega];exact Nat.lt_of_le_of_lt h1 h
 exact Nat.lt_of_mul_lt_mul_right h2
theorem bo(c:Nat→Nat)(h:MW c)(x:Nat×Nat)(hx:x∈GQ c 16):x.2+1<2^x.1∧1≤x.1∧x.1≤16:=by
 have h1:=KU c 16 x hx
 have h2:=((LK c 16 (by omega)).mem x hx).2
 have h3:=(Gg c).1 h
 refine ⟨?_,h1.1,h1.2⟩
 have h4:(x.2+1)*2^(16-x.1)<2^x.1*2^(16-x.1):=by
  rw [←Nat.pow_add,show x.1+(16-x.1)=16 by omega]
  have:Zh x=(x.2+1)*2^(16-x.1):=rfl
  simp at h2;omega
 exact Nat.lt_of_mul_lt_mul_right h4
theorem QG(x y:Nat×Nat)(hx:x.1≤y.1)(hy:y.1≤16)(h:y.2/2^(y.1-x.1)=x.2):XQ x≤XQ y∧XQ y<Zh x:=by
 have hp:0<2^(y.1-x.1):=Nat.two_pow_pos _
 have hq:0<2^(16-y.1):=Nat.two_pow_pos _
 have e:2^(16-x.1)=2^(y.1-x.1)*2^(16-y.1):=by rw [←Nat.pow_add];congr 1;omega
 have h1:x.2*2^(y.1-x.1)≤y.2:=by rw [←h];exact Nat.div_mul_le_self _ _
 have h2:y.2<(x.2+1)*2^(y.1-x.1):=by rw [←h,Nat.mul_comm];exact Nat.lt_mul_div_succ _ hp
 unfold XQ Zh
 rw [e,←Nat.mul_assoc,←Nat.mul_assoc]
 exact ⟨Nat.mul_le_mul_right _ h1,Nat.mul_lt_mul_of_pos_right h2 hq⟩
theorem TJ(c:Nat→Nat)(i j:Nat)(x y:Nat×Nat)(hi:(GQ c 16)[i]? =some x)(hj:(GQ c 16)[j]? =some y)(hne:i≠j)(hl:x.1≤y.1):¬y.2/2^(y.1-x.1)=x.2:=by
 intro h
 have hp:=(LK c 16 (by omega)).pair
 have hy:=KU c 16 y (List.mem_of_getElem? hj)
 obtain ⟨h1,h2⟩:=QG x y hl hy.2 h
 rw [List.pairwise_iff_getElem] at hp
 obtain ⟨hi1,hi2⟩:=List.getElem?_eq_some_iff.1 hi
 obtain ⟨hj1,hj2⟩:=List.getElem?_eq_some_iff.1 hj
 have hw:∀z:Nat×Nat,XQ z<Zh z:=fun z=>Nat.mul_lt_mul_of_pos_right (by omega) (Nat.two_pow_pos _)
 rcases Nat.lt_or_gt_of_ne hne with g|g
 ·have:=hp i j hi1 hj1 g
  rw [hi2,hj2] at this;omega
 have:=hp j i hj1 hi1 g
 rw [hi2,hj2] at this
 have:=hw y
 omega
def cc(C:List Int)(k:Nat):Nat:=(AJ C k).toNat
def Jf(C:List Int):Bool:=(List.range 16).all (fun k=>decide (0≤AJ C k∧AJ C k≤256))&&decide (sm (cc C) 16≤256)
theorem EJ(C:List Int):Jf C=true↔(∀k,k<16→0≤AJ C k∧AJ C k≤256)∧sm (cc C) 16≤256:=by
 simp [Jf]
def PR(c:Nat→Nat):Bool:=(List.range 16).all fun k=>decide (nx c (k+1)<2^(k+1))
theorem Gf(c:Nat→Nat):PR c=true↔MW c:=by simp [PR,MW]
def Pf(S:List Int):Bool:=S.all fun s=>decide (0≤s)&&decide (s<256)
def Ay(C S:List Int):Int:=
 if Jf C=true∧sm (cc C) 16=S.length then if Pf S then if S.Nodup∧PR (cc C)=true then 0 else 4 else 1 else 4
theorem Dq{C S:List Int}(h:Ay C S=0):(∀k,k<16→0≤AJ C k∧AJ C k≤256)∧sm (cc C) 16=S.length∧S.length≤256∧(∀s∈S,0≤s∧s<256)∧S.Nodup∧MW (cc C):=by
 unfold Ay at h
 split at h
 ·rename_i h1
  split at h
  ·rename_i h2
   split at h
   ·rename_i h3
    obtain ⟨h4,h5⟩:=(EJ C).1 h1.1
    refine ⟨h4,h1.2,by omega,?_,h3.1,(Gf _).1 h3.2⟩
    intro s hs
    have:=List.all_eq_true.1 h2 s hs
    simpa using this
   cases h
  cases h
 cases h
theorem ZX{C S:List Int}(h1:Jf C=true)(h2:sm (cc C) 16=S.length)(h3:∀s∈S,0≤s∧s<256)(h4:S.Nodup)(h5:MW (cc C)):Ay C S=0:=by
 unfold Ay
 rw [if_pos ⟨h1,h2⟩,if_pos,if_pos ⟨h4,(Gf _).2 h5⟩]
 rw [Pf,List.all_eq_true];intro s hs;simpa using h3 s hs
def Bh(C S:List Int):List (Int×Nat×Nat):=S.zip (GQ (cc C) 16)
def Ss(l:List (Int×Nat×Nat)):List Int:=l.flatMap fun x=>[x.1,(x.2.1:Int),(x.2.2:Int)]
theorem Wt(l:List (Int×Nat×Nat))(x:Int×Nat×Nat):Ss (l++[x])=Ss l++[x.1,(x.2.1:Int),(x.2.2:Int)]:=by simp [Ss]
theorem Su:∀(l:List (Int×Nat×Nat))(k:Nat)(x:Int×Nat×Nat),l[k]? =some x→((Ss l).drop (k*3)).take 3=[x.1,(x.2.1:Int),(x.2.2:Int)]
 | [],k,x,h=>by simp at h
 | y::l,0,x,h=>by
   obtain rfl:y=x:=by simpa using h
   simp [Ss]
 | y::l,k+1,x,h=>by
   have:=Su l k x (by simpa using h)
   rw [show (k+1)*3=k*3+3 by omega]
   simp only [Ss,List.flatMap_cons] at*
   rw [List.drop_append,List.drop_of_length_le (by simp)]
   simpa using this
theorem W8(S:List Int)(A:List (Nat×Nat))(x:Nat×Nat)(h:A.length<S.length):S.zip (A++[x])=S.zip A++[(AJ S A.length,x)]:=by
 apply List.ext_getElem?
 intro i
 rcases Nat.lt_trichotomy i A.length with g|g|g
 ·rw [List.getElem?_append_left (by simp;omega)]
  simp only [List.zip,List.getElem?_zipWith]
  rw [List.getElem?_append_left g]
 ·subst g
  rw [List.getElem?_append_right (by simp;omega)]
  simp only [List.zip,List.getElem?_zipWith]
  rw [List.getElem?_append_right (by omega),Cw S _ h,Nat.sub_self,show (List.zipWith Prod.mk S A).length=A.length by simp;omega,Nat.sub_self]
  rfl
 rw [List.getElem?_eq_none (by simp;omega),List.getElem?_eq_none (by simp;omega)]
theorem N7(C S:List Int)(h:sm (cc C) 16=S.length):(Bh C S).length=S.length:=by
 simp [Bh,FO,h]
theorem Sq(C S:List Int)(h:sm (cc C) 16=S.length)(i:Nat)(hi:i<S.length):∃x,(GQ (cc C) 16)[i]? =some x∧(Bh C S)[i]? =some (AJ S i,x):=by
 have hl:i<(GQ (cc C) 16).length:=by rw [FO];omega
 refine ⟨_,List.getElem?_eq_getElem hl,?_⟩
 simp only [Bh,List.zip,List.getElem?_zipWith,Cw S i hi,List.getElem?_eq_getElem hl]
theorem KC(C S:List Int)(x:Int×Nat×Nat)(hx:x∈Bh C S):x.1∈S∧x.2∈GQ (cc C) 16:=List.of_mem_zip (a:=x.1) (b:=x.2) hx
def symW(L:List (Int×Nat×Nat))(s:Int):Option (Nat×Nat):=(L.reverse.find? fun x=>decide (x.1=s)).map (·.2)
def codW(L:List (Int×Nat×Nat))(p:Int×Int):Option Int:=(L.reverse.find? fun x=>decide (p=((x.2.1:Int),(x.2.2:Int)))).map (·.1)
theorem T7(L:List (Int×Nat×Nat))(x:Int×Nat×Nat)(s:Int):symW (L++[x]) s=if s=x.1 then some x.2 else symW L s:=by
 unfold symW
 rw [List.reverse_append,List.reverse_singleton,List.singleton_append,List.find?_cons]
 by_cases h:s=x.1
 ·simp [h]
 have:¬x.1=s:=fun e=>h e.symm
 simp [h,this]
theorem TS(L:List (Int×Nat×Nat))(x:Int×Nat×Nat)(p:Int×Int):codW (L++[x]) p=if p=((x.2.1:Int),(x.2.2:Int)) then some x.1 else codW L p:=by
 unfold codW
 rw [List.reverse_append,List.reverse_singleton,List.singleton_append,List.find?_cons]
 by_cases h:p=((x.2.1:Int),(x.2.2:Int))
 ·simp [h]
 simp [h]
theorem Ed{L:List (Int×Nat×Nat)}{s:Int}{y:Nat×Nat}(h:symW L s=some y):(s,y)∈L:=by
 unfold symW at h
 cases hf:L.reverse.find? fun x=>decide (x.1=s) with
 | none=>rw [hf] at h;cases h
 | some x=>
   rw [hf] at h
   have h1:=List.mem_of_find?_eq_some hf
   have h2:=List.find?_some hf
   simp only [Option.map_some,Option.some.injEq] at h
   simp only [decide_eq_true_eq] at h2
   subst h;subst h2
   simpa using h1
theorem T6{L:List (Int×Nat×Nat)}{s:Int}(h:symW L s=none):∀x∈L,x.1≠s:=by
 unfold symW at h
 rw [Option.map_eq_none_iff,List.find?_eq_none] at h
 intro x hx
 simpa using h x (by simpa using hx)
theorem KY{L:List (Int×Nat×Nat)}{a b:Nat}{s:Int}(h:codW L ((a:Int),(b:Int))=some s):(s,a,b)∈L:=by
 unfold codW at h
 cases hf:L.reverse.find? fun x=>decide (((a:Int),(b:Int))=((x.2.1:Int),(x.2.2:Int))) with
 | none=>rw [hf] at h;cases h
 | some x=>
   rw [hf] at h
   have h1:=List.mem_of_find?_eq_some hf
   have h2:=List.find?_some hf
   simp only [Option.map_some,Option.some.injEq] at h
   simp only [decide_eq_true_eq,Prod.mk.injEq] at h2
   obtain ⟨s',a',b'⟩:=x
   simp only at h h2
   obtain ⟨h3,h4⟩:=h2
   have h5:a=a':=by omega
   have h6:b=b':=by omega
   subst h;subst h5;subst h6
   simpa using h1
theorem TR{L:List (Int×Nat×Nat)}{a b:Nat}(h:codW L ((a:Int),(b:Int))=none):∀x∈L,x.2≠(a,b):=by
 unfold codW at h
 rw [Option.map_eq_none_iff,List.find?_eq_none] at h
 intro x hx
 have:=h x (by simpa using hx)
 intro e
 rw [e] at this
 simp at this
structure Cj(L:List (Int×Nat×Nat)):Prop where
 long:∀x∈L,1≤x.2.1∧x.2.1≤16∧x.2.2+1<2^x.2.1
 sym:∀x∈L,∀y∈L,x.1=y.1→x=y
 pre:∀x∈L,∀y∈L,x.2.1≤y.2.1→y.2.2/2^(y.2.1-x.2.1)=x.2.2→x=y
 range:∀x∈L,0≤x.1∧x.1<256
theorem Bb{C S:List Int}(h:Ay C S=0):Cj (Bh C S):=by
 obtain ⟨h1,h2,h3,h4,h5,h6⟩:=Dq h
 have idx:∀x∈Bh C S,∃i,i<S.length∧x.1=AJ S i∧(GQ (cc C) 16)[i]? =some x.2∧(Bh C S)[i]? =some x:=fun x hx=>by
  obtain ⟨i,hi,e⟩:=List.getElem_of_mem hx
  rw [N7 C S h2] at hi
  obtain ⟨y,e1,e2⟩:=Sq C S h2 i hi
  have e3:(Bh C S)[i]? =some x:=by rw [List.getElem?_eq_getElem (by rw [N7 C S h2];exact hi),e]
  rw [e2] at e3
  obtain rfl:(AJ S i,y)=x:=by simpa using e3
  exact ⟨i,hi,rfl,e1,e2⟩
 refine ⟨fun x hx=>?_,fun x hx y hy e=>?_,fun x hx y hy hl hp=>?_,fun x hx=>h4 _ (KC C S x hx).1⟩
 ·have:=bo (cc C) h6 x.2 (KC C S x hx).2
  exact ⟨this.2.1,this.2.2,this.1⟩
 ·obtain ⟨i,hi,ei,ci,wi⟩:=idx x hx
  obtain ⟨j,hj,ej,cj,wj⟩:=idx y hy
  have hij:i=j:=by
   rw [ei,ej] at e
   have gi:=Cw S i hi
   have gj:=Cw S j hj
   rw [e] at gi
   exact (List.getElem?_inj hi h5).1 (by rw [gi,gj])
  subst hij
  rw [wi] at wj
  simpa using wj
 obtain ⟨i,hi,ei,ci,wi⟩:=idx x hx
 obtain ⟨j,hj,ej,cj,wj⟩:=idx y hy
 by_cases hij:i=j
 ·subst hij;rw [wi] at wj;simpa using wj
 exact absurd hp (TJ (cc C) i j x.2 y.2 ci cj hij hl)
theorem Cj.symW{L:List (Int×Nat×Nat)}(h:Cj L){x:Int×Nat×Nat}(hx:x∈L):symW L x.1=some x.2:=by
 cases hs:Go.Proofs.YtohacgmhmbijmaaGreatDoor.symW L x.1 with
 | none=>exact absurd rfl (T6 hs x hx)
 | some y=>
   have:=h.sym _ (Ed hs) x hx rfl
   rw [←this]
theorem Cj.codW{L:List (Int×Nat×Nat)}(h:Cj L){x:Int×Nat×Nat}(hx:x∈L):codW L ((x.2.1:Int),(x.2.2:Int))=some x.1:=by
 cases hs:Go.Proofs.YtohacgmhmbijmaaGreatDoor.codW L ((x.2.1:Int),(x.2.2:Int)) with
 | none=>exact absurd rfl (TR hs x hx)
 | some y=>
   have:=h.pre _ (KY hs) x hx (Nat.le_refl _) (by simp)
   rw [←this]
end Go.Proofs.YtohacgmhmbijmaaGreatDoor
namespace Go.Proofs.YtohacgmhmbijmaaGreatDoor
attribute [local irreducible] Region.wanted
open Go.RowKit
set_option linter.unusedVariables false
set_option maxRecDepth 100000
set_option maxHeartbeats 8000000
def Cu{K:Type}(enc:K→Value)(x:K×Value×Nat):MapEntry:={key:=enc x.1,val:=x.2.1,born:=x.2.2}
def BD{K:Type}[DecidableEq K](k:K):List (K×Value×Nat)→Nat→Option (Nat×Value)
 | [],_=>none
 | x::l,i=>if k=x.1 then some (i,x.2.1) else BD k l (i+1)
structure FJ{K:Type}[DecidableEq K](P:Program)(kt:TypeId)(enc:K→Value):Prop where
 check:∀(w:World)(b:Bool)(k:K),(Instr.checkKey b 10000 kt (enc k)).run P w= .ok () w
 find:∀(w:World)(k:K)(l:List (K×Value×Nat)),(Instr.findKey kt (enc k) (l.map (Cu enc))).run P w= .ok (BD k l 0) w
 same:∀k,Instr.sameBits 10000 (enc k) (enc k)=true
def G4{K:Type}[DecidableEq K](enc:K→Value)(w:World)(b:Nat)(f:K→Option Value):Prop:=
 ∃(l:List (K×Value×Nat)) (clock:Nat),w.heap[b]? =some (.map (l.map (Cu enc)).toArray clock)∧∀k,(BD k l 0).map (·.2)=f k
section
variable{K:Type}[DecidableEq K]{P:Program}{enc:K→Value}
theorem IF(k:K)(l:List (K×Value×Nat)):∀i,BD k l i=(BD k l 0).map fun x=>(x.1+i,x.2):=by
 induction l with
 | nil=>intro i;rfl
 | cons x l ih=>
   intro i
   simp only [BD]
   split
   ·simp
   rw [ih (i+1),ih (0+1)]
   cases BD k l 0 with
   | none=>rfl
   | some y=>simp;omega
theorem Lq(k:K)(l m:List (K×Value×Nat)):∀i,BD k (l++m) i=(BD k l i).or (BD k m (i+l.length)):=by
 induction l with
 | nil=>intro i;simp [BD]
 | cons x l ih=>
   intro i
   simp only [List.cons_append,BD]
   split
   ·simp
   rw [ih,List.length_cons,show i+1+l.length=i+(l.length+1) by omega]
theorem Lr(k j:K)(v:Value):∀(l:List (K×Value×Nat))(n i:Nat)(u:Value),BD k l n=some (n+i,u)→
 (BD j (l.modify i fun e=>(k,v,e.2.2)) n).map (·.2)=if j=k then some v else (BD j l n).map (·.2):=by
 intro l
 induction l with
 | nil=>intro n i u h;simp [BD] at h
 | cons x l ih=>
   intro n i u h
   simp only [BD] at h
   split at h
   ·rename_i hk
    simp only [Option.some.injEq,Prod.mk.injEq] at h
    have hi:i=0:=by omega
    subst hi
    simp only [List.modify_zero_cons,BD]
    by_cases hj:j=k
    ·simp [hj]
    have:¬j=x.1:=fun e=>hj (e.trans hk.symm)
    simp [hj,this]
   rename_i hk
   cases i with
   | zero=>
     exfalso
     rw [IF] at h
     cases hf:BD k l 0 with
     | none=>simp [hf] at h
     | some y=>simp [hf] at h;omega
   | succ i=>
     simp only [List.modify_succ_cons,BD]
     have h':BD k l (n+1)=some (n+1+i,u):=by rw [h];congr 2;omega
     split
     ·rename_i hj
      have:¬j=k:=fun e=>hk (e▸ hj)
      simp [this]
     exact ih (n+1) i u h'
theorem G4.new(w:World):G4 enc (w.alloc (.map #[] 0)) w.heap.size (fun _=>none):=
 ⟨[],0,heap_alloc_new w _,fun _=>rfl⟩
theorem G4.lt{w:World}{b:Nat}{f:K→Option Value}(h:G4 enc w b f):b<w.heap.size:=by
 obtain ⟨l,c,h,_⟩:=h
 exact (Array.getElem?_eq_some_iff.1 h).1
theorem G4.of_heap{w w':World}{b:Nat}{f:K→Option Value}(h:G4 enc w b f)(hh:w'.heap[b]? =w.heap[b]?):G4 enc w' b f:=by
 obtain ⟨l,c,h,hf⟩:=h
 exact ⟨l,c,by rw [hh];exact h,hf⟩
theorem JD{w:World}{b:Nat}{es:Array MapEntry}{c:Nat}(h:w.heap[b]? =some (.map es c)):(getObj b:Sem Obj).run P w= .ok (.map es c) w:=by
 simp [getObj,Sem.run,h]
theorem G4.lookup{w:World}{b:Nat}{f:K→Option Value}{mt kt et:TypeId}(h:G4 enc w b f)(hm:P.underlying mt=some (.map kt et))(law:FJ P kt enc)(k:K)(ok:Bool)
 {z:Value} (hz:∀w,(zeroValue et).run P w= .ok z w):
 (Instr.lookup mt (.map (some b)) (enc k) ok).run P w= .ok (if ok then .tuple #[(f k).getD z, .bool (f k).isSome] else (f k).getD z) w:=by
 obtain ⟨l,c,hb,hf⟩:=h
 have hfk:=hf k
 simp only [Instr.lookup,Sem.run_bind,run_underlying hm,Result.andThen_ok,JD hb,Sem.run_pure,law.check,law.find]
 cases hfi:BD k l 0 with
 | none=>
   rw [hfi] at hfk
   simp only [Option.map_none] at hfk
   rw [←hfk]
   simp [hz]
 | some y=>
   rw [hfi] at hfk
   simp only [Option.map_some] at hfk
   rw [←hfk]
   simp
theorem G4.update{w:World}{b:Nat}{f:K→Option Value}{mt kt et:TypeId}(h:G4 enc w b f)(hm:P.underlying mt=some (.map kt et))(law:FJ P kt enc)(k:K)(v:Value):
 ∃w',(Instr.mapUpdate mt (.map (some b)) (enc k) v).run P w= .ok () w'∧G4 enc w' b (fun j=>if j=k then some v else f j)∧
  (∀W,W.heap.size≤b→Ai W w→Ai W w')∧∀i,i≠b→w'.heap[i]? =w.heap[i]? :=by
 obtain ⟨l,c,hb,hf⟩:=h
 have hlt:b<w.heap.size:=(Array.getElem?_eq_some_iff.1 hb).1
 have hset:∀o:Obj,(setObj b o).run P w= .ok () {w with heap:=w.heap.setIfInBounds b o}:=by
  intro o
  simp [setObj,Sem.run,hb]
 have hext:∀(o:Obj) W,W.heap.size≤b→Ai W w→Ai W {w with heap:=w.heap.setIfInBounds b o}:=fun o W hW hE=>
  Below.trans hE ⟨rfl,rfl,rfl,by simp,fun i hi=>by simp only [Array.getElem?_setIfInBounds];rw [if_neg (by omega)]⟩
 have hoth:∀(o:Obj) i,i≠b→({w with heap:=w.heap.setIfInBounds b o}:World).heap[i]? =w.heap[i]? :=fun o i hi=>by
  simp only [Array.getElem?_setIfInBounds];rw [if_neg (fun e=>hi e.symm)]
 have hnew:∀(o:Obj),({w with heap:=w.heap.setIfInBounds b o}:World).heap[b]? =some o:=fun o=>by
  simp [hlt]
 cases hfi:BD k l 0 with
 | none=>
   refine ⟨{w with heap:=w.heap.setIfInBounds b (.map ((l++[(k,v,c)]).map (Cu enc)).toArray (c+1))},?_,⟨l++[(k,v,c)],c+1,hnew _,fun j=>?_⟩,hext _,hoth _⟩
   ·simp only [Instr.mapUpdate,Sem.run_bind,run_underlying hm,Result.andThen_ok,JD hb,law.check,law.find,hfi]
    rw [hset]
    congr 4
    simp [Cu]
   show _=if j=k then some v else f j
   rw [Lq,←hf j]
   by_cases hj:j=k
   ·subst hj;simp [hfi,BD]
   cases BD j l 0<;>simp [BD,hj]
 | some y=>
   obtain ⟨i,u⟩:=y
   have hmod:=fun j=>Lr k j v l 0 i u (by rw [hfi];simp)
   have hik:∃e,l[i]? =some e∧e.1=k:=by
    have:∀(l:List (K×Value×Nat)) n i u,BD k l n=some (n+i,u)→∃e,l[i]? =some e∧e.1=k:=by
     intro l
     induction l with
     | nil=>intro n i u h;simp [BD] at h
     | cons x l ih=>
       intro n i u h
       simp only [BD] at h
       split at h
       ·rename_i hk
        simp only [Option.some.injEq,Prod.mk.injEq] at h
        have hi:i=0:=by omega
        subst hi
        exact ⟨x,rfl,hk.symm⟩
       cases i with
       | zero=>
         exfalso
         rw [IF] at h
         cases hf:BD k l 0 with
         | none=>simp [hf] at h
         | some y=>simp [hf] at h;omega
       | succ i=>exact ih (n+1) i u (by rw [h];congr 2;omega)
    exact this l 0 i u (by rw [hfi];simp)
   obtain ⟨e,he,hek⟩:=hik
   refine ⟨{w with heap:=w.heap.setIfInBounds b (.map ((l.modify i fun e=>(k,v,e.2.2)).map (Cu enc)).toArray c)},?_,⟨l.modify i fun e=>(k,v,e.2.2),c,hnew _,fun j=>?_⟩,hext _,hoth _⟩
   ·simp only [Instr.mapUpdate,Sem.run_bind,run_underlying hm,Result.andThen_ok,JD hb,law.check,law.find,hfi]
    have hold:(((l.map (Cu enc)).toArray[i]?).map (·.key)).getD (enc k)=enc k:=by simp [he,Cu,hek]
    rw [hold]
    simp only [Instr.keyThatStays,law.same,if_true,Sem.run_pure,Result.andThen_ok]
    rw [hset]
    congr 4
    apply Array.ext_getElem?
    intro j
    simp only [Array.getElem?_modify,List.getElem?_toArray,List.getElem?_map,List.getElem?_modify]
    by_cases hij:i=j
    ·subst hij;simp [he,Cu]
    simp [hij]
   rw [hmod j,hf j]
end
def ik(n:Int):Value:= .int .i64 n
theorem CM{P:Program}{kt:TypeId}(h:P.underlying kt=some (.int .i64)):FJ P kt ik where
 check w b k:=by
  unfold ik
  rw [show (10000:Nat)=9999+1 from rfl,Instr.checkKey]
  simp [run_underlying h]
 find w k l:=by
  have key:∀(l:List (Int×Value×Nat)) i,Instr.findNow (.int .i64) (ik k) (l.map (Cu ik)) i=some (BD k l i):=by
   intro l
   induction l with
   | nil=>intro i;rfl
   | cons x l ih=>
     intro i
     simp only [List.map_cons,Instr.findNow,BD,Cu,ik,Instr.sameNow,if_true]
     by_cases hx:k=x.1
     ·simp [hx]
     have:(k==x.1)=false:=by simpa using hx
     simp only [this,hx,if_false]
     exact ih (i+1)
  simp [Instr.findKey,run_underlying h,key]
 same k:=by unfold ik;rw [Instr.sameBits.eq_2];simp
section
variable{K:Type}[DecidableEq K]{P:Program}{enc:K→Value}
end
inductive Af where
 | ints (l:List Int)
 | val (v:Value)
def Af.cells:Af→List Value
 | .ints l=>l.map (Value.int .i64)
 | .val v=>[v]
def AF:List Af→List Value
 | []=>[]
 | p::ps=>p.cells++AF ps
def prt(g:Nat)(ps:List Af):Ar:=blk g (AF ps)
inductive UZ:List Af→Nat→List Int→Nat→Prop
 | head {l:List Int} {ps:List Af} {off n:Nat} (hn:Al l n) (h:off<n):UZ (.ints l::ps) off l off
 | skipI {l:List Int} {ps:List Af} {off n o2 r:Nat} {l':List Int} (hn:Al l n) (h:n≤off) (ho:off-n=o2) (t:UZ ps o2 l' r):UZ (.ints l::ps) off l' r
 | skipV {v:Value} {ps:List Af} {off r:Nat} {l':List Int} (t:UZ ps off l' r):UZ (.val v::ps) (off+1) l' r
theorem UZ.get{ps:List Af}{off r:Nat}{l:List Int}(h:UZ ps off l r):(AF ps)[off]? =some (.int .i64 (AJ l r)):=by
 induction h with
 | @head l ps off n hn h=>
   have hl:=hn.out
   rw [AF,Af.cells,List.getElem?_append_left (by simp;omega),List.getElem?_map,Cw l off (by omega)];rfl
 | @skipI l ps off n o2 r l' hn h ho t ih=>
   have hl:=hn.out
   rw [AF,Af.cells,List.getElem?_append_right (by simp;omega),List.length_map,hl,ho,ih]
 | @skipV v ps off r l' t ih=>
   rw [AF,Af.cells,List.singleton_append,List.getElem?_cons_succ,ih]
inductive KE:List Af→Nat→Value→Prop
 | head {v:Value} {ps:List Af}:KE (.val v::ps) 0 v
 | skipI {l:List Int} {ps:List Af} {off n o2:Nat} {v:Value} (hn:Al l n) (h:n≤off) (ho:off-n=o2) (t:KE ps o2 v):KE (.ints l::ps) off v
 | skipV {u v:Value} {ps:List Af} {off:Nat} (t:KE ps off v):KE (.val u::ps) (off+1) v
theorem KE.get{ps:List Af}{off:Nat}{v:Value}(h:KE ps off v):(AF ps)[off]? =some v:=by
 induction h with
 | head=>rfl
 | @skipI l ps off n o2 v hn h ho t ih=>
   have hl:=hn.out
   rw [AF,Af.cells,List.getElem?_append_right (by simp;omega),List.length_map,hl,ho,ih]
 | @skipV u v ps off t ih=>
   rw [AF,Af.cells,List.singleton_append,List.getElem?_cons_succ,ih]
inductive Bx:List Af→Nat→List Af→Prop
 | nil {ps:List Af}:Bx ps 0 []
 | ints {l:List Int} {ps ss:List Af} {n m m2:Nat} (hn:Al l n) (h:n≤m) (hm:m-n=m2) (t:Bx ps m2 ss):Bx (.ints l::ps) m (.ints l::ss)
 | val {v:Value} {ps ss:List Af} {m:Nat} (t:Bx ps m ss):Bx (.val v::ps) (m+1) (.val v::ss)
theorem Bx.take{ps ss:List Af}{m:Nat}(h:Bx ps m ss):(AF ps).take m=AF ss∧(AF ss).length=m:=by
 induction h with
 | nil=>exact ⟨by simp [AF],rfl⟩
 | @ints l ps ss n m m2 hn h hm t ih=>
   have hl:=hn.out
   refine ⟨?_,by simp only [AF,Af.cells,List.length_append,List.length_map,ih.2];omega⟩
   rw [AF,AF,Af.cells,List.take_append,List.length_map,hl,hm,ih.1,List.take_of_length_le (by simp;omega)]
 | @val v ps ss m t ih=>
   exact ⟨by simp only [AF,Af.cells,List.singleton_append,List.take_succ_cons,ih.1],by simp only [AF,Af.cells,List.singleton_append,List.length_cons,ih.2]⟩
inductive Gt:List Af→Nat→Nat→List Af→Prop
 | head {ps ss:List Af} {m:Nat} (h:Bx ps m ss):Gt ps 0 m ss
 | skipI {l:List Int} {ps ss:List Af} {off n o2 m:Nat} (hn:Al l n) (h:n≤off) (ho:off-n=o2) (t:Gt ps o2 m ss):Gt (.ints l::ps) off m ss
 | skipV {u:Value} {ps ss:List Af} {off m:Nat} (t:Gt ps off m ss):Gt (.val u::ps) (off+1) m ss
theorem Gt.get{ps ss:List Af}{off m:Nat}(h:Gt ps off m ss):((AF ps).drop off).take m=AF ss∧(AF ss).length=m:=by
 induction h with
 | head h=>rw [List.drop_zero];exact h.take
 | @skipI l ps ss off n o2 m hn h ho t ih=>
   have hl:=hn.out
   rw [AF,Af.cells,List.drop_append,List.length_map,hl,ho,List.drop_of_length_le (by simp;omega),List.nil_append];exact ih
 | @skipV u ps ss off m t ih=>
   rw [AF,Af.cells,List.singleton_append,List.drop_succ_cons];exact ih
inductive RN:List Af→Nat→Nat→List Int→Prop
 | head {l:List Int} {ps:List Af} {n:Nat} (hn:Al l n):RN (.ints l::ps) 0 n l
 | skipI {l l':List Int} {ps:List Af} {off n o2 m:Nat} (hn:Al l n) (h:n≤off) (ho:off-n=o2) (t:RN ps o2 m l'):RN (.ints l::ps) off m l'
 | skipV {u:Value} {l':List Int} {ps:List Af} {off m:Nat} (t:RN ps off m l'):RN (.val u::ps) (off+1) m l'
theorem RN.get{ps:List Af}{off m:Nat}{l:List Int}(h:RN ps off m l):((AF ps).drop off).take m=l.map (Value.int .i64)∧l.length=m:=by
 induction h with
 | @head l ps n hn=>
   have hl:=hn.out
   rw [List.drop_zero,AF,Af.cells,List.take_append,List.length_map,hl,Nat.sub_self,List.take_of_length_le (by simp;omega)]
   exact ⟨by simp,rfl⟩
 | @skipI l l' ps off n o2 m hn h ho t ih=>
   have hl:=hn.out
   rw [AF,Af.cells,List.drop_append,List.length_map,hl,ho,List.drop_of_length_le (by simp;omega),List.nil_append];exact ih
 | @skipV u l' ps off m t ih=>
   rw [AF,Af.cells,List.singleton_append,List.drop_succ_cons];exact ih
section
variable{P:Program}{W w:World}{rs rs':List Ar}{Q:Exit→Act→World→Prop}{K:Act→World→Prop}{o:Oper}{a:Act}
theorem UN(hS:St W w rs)(ty:TypeId)(x:Operand)(ho:o.op= .load ty x)(g off:Nat)(hx:a.eval x= .pointer (some ⟨g,off,none⟩))(h1:Lj P ty)(ps:List Af)(hp:AT (prt g ps) rs rs')
 (l:List Int) (r:Nat) (hi:UZ ps off l r) (h:K (a.put o.dst (.int .i64 (AJ l r))) w):o.wp P a w K Q:=
 AX hS ty x ho g off hx h1 _ hp _ hi.get h
theorem FG(hS:St W w rs)(ty:TypeId)(x:Operand)(ho:o.op= .load ty x)(g off:Nat)(hx:a.eval x= .pointer (some ⟨g,off,none⟩))(h1:Lj P ty)(ps:List Af)(hp:AT (prt g ps) rs rs')
 (v:Value) (hi:KE ps off v) (h:K (a.put o.dst v) w):o.wp P a w K Q:=
 AX hS ty x ho g off hx h1 _ hp _ hi.get h
theorem I8{g off m:Nat}{ps:List Af}{cs:List Value}(hS:St W w rs)(hp:AT (prt g ps) rs rs')(h:((AF ps).drop off).take m=cs):w.rangeAt g off cs:=fun j v hv=>by
 rw [←h,List.getElem?_take] at hv
 split at hv
 ·rw [List.getElem?_drop] at hv
  rw [(St.blk hS hp).1.cell];simpa using hv
 cases hv
theorem Mq(hS:St W w rs)(ty:TypeId)(x:Operand)(ho:o.op= .load ty x)(g off:Nat)(hx:a.eval x= .pointer (some ⟨g,off,none⟩))(m:Nat)(h1:Ey P ty m)(ps:List Af)(hp:AT (prt g ps) rs rs')
 (l:List Int) (hi:RN ps off m l) (h:K (a.put o.dst (.agg (iv l))) w):o.wp P a w K Q:=
 Eh ty x ho g off hx m h1 (l.map (Value.int .i64)) (by simpa using hi.get.2) (I8 hS hp hi.get.1) h
theorem DG(hS:St W w rs)(ty:TypeId)(x:Operand)(ho:o.op= .load ty x)(g off:Nat)(hx:a.eval x= .pointer (some ⟨g,off,none⟩))(m:Nat)(h1:Ey P ty m)(ps:List Af)(hp:AT (prt g ps) rs rs')
 (ss:List Af) (hi:Gt ps off m ss) (h:K (a.put o.dst (.agg (AF ss).toArray)) w):o.wp P a w K Q:=
 Eh ty x ho g off hx m h1 (AF ss) hi.get.2 (I8 hS hp hi.get.1) h
theorem Ig(hS:St W w rs)(ty:TypeId)(x:Operand)(ho:o.op= .box ty x)(ps:List Af)(hx:a.eval x= .agg (AF ps).toArray)
 (h:∀g w',St W w' (prt g ps::rs)→K (a.put o.dst (.pointer (some ⟨g,0,none⟩))) w'):o.wp P a w K Q:=
 CS hS ty x ho (AF ps) hx h
end
inductive KF(z:Int):List Af→Nat→List Af→Prop
 | head {l:List Int} {ps:List Af} {off n:Nat} (hn:Al l n) (h:off<n):KF z (.ints l::ps) off (.ints (l.set off z)::ps)
 | skipI {l:List Int} {ps ps':List Af} {off n o2:Nat} (hn:Al l n) (h:n≤off) (ho:off-n=o2) (t:KF z ps o2 ps'):KF z (.ints l::ps) off (.ints l::ps')
 | skipV {v:Value} {ps ps':List Af} {off:Nat} (t:KF z ps off ps'):KF z (.val v::ps) (off+1) (.val v::ps')
theorem KF.eq{z:Int}{ps ps':List Af}{off:Nat}(h:KF z ps off ps'):off<(AF ps).length∧AF ps'=(AF ps).set off (.int .i64 z):=by
 induction h with
 | @head l ps off n hn h=>
   have hl:=hn.out
   refine ⟨by simp [AF,Af.cells];omega,?_⟩
   rw [AF,AF,Af.cells,Af.cells,List.set_append_left _ _ (by simp;omega),List.map_set]
 | @skipI l ps ps' off n o2 hn h ho t ih=>
   have hl:=hn.out
   refine ⟨by simp [AF,Af.cells];omega,?_⟩
   rw [AF,AF,Af.cells,List.set_append_right _ _ (by simp;omega),List.length_map,hl,ho,ih.2]
 | @skipV v ps ps' off t ih=>
   refine ⟨by simp [AF,Af.cells];omega,?_⟩
   rw [AF,AF,Af.cells,List.singleton_append,List.singleton_append,List.set_cons_succ,ih.2]
inductive G5(z:Value):List Af→Nat→List Af→Prop
 | head {v:Value} {ps:List Af}:G5 z (.val v::ps) 0 (.val z::ps)
 | skipI {l:List Int} {ps ps':List Af} {off n o2:Nat} (hn:Al l n) (h:n≤off) (ho:off-n=o2) (t:G5 z ps o2 ps'):G5 z (.ints l::ps) off (.ints l::ps')
 | skipV {v:Value} {ps ps':List Af} {off:Nat} (t:G5 z ps off ps'):G5 z (.val v::ps) (off+1) (.val v::ps')
theorem G5.eq{z:Value}{ps ps':List Af}{off:Nat}(h:G5 z ps off ps'):off<(AF ps).length∧AF ps'=(AF ps).set off z:=by
 induction h with
 | head=>exact ⟨by simp [AF,Af.cells],rfl⟩
 | @skipI l ps ps' off n o2 hn h ho t ih=>
   have hl:=hn.out
   refine ⟨by simp [AF,Af.cells];omega,?_⟩
   rw [AF,AF,Af.cells,List.set_append_right _ _ (by simp;omega),List.length_map,hl,ho,ih.2]
 | @skipV v ps ps' off t ih=>
   refine ⟨by simp [AF,Af.cells];omega,?_⟩
   rw [AF,AF,Af.cells,List.singleton_append,List.singleton_append,List.set_cons_succ,ih.2]
theorem EN.of{v:Value}:∀{l:List Value} {i:Nat},i<l.length→EN v i l (l.set i v)
 | [],i,h=>by simp at h
 | x::l,0,_=> .head
 | x::l,i+1,h=> .tail (EN.of (by simpa using h))
section
variable{P:Program}{W w:World}{rs rs':List Ar}{Q:Exit→Act→World→Prop}{K:Act→World→Prop}{o:Oper}{a:Act}
theorem RM(hS:St W w rs)(ty:TypeId)(x y:Operand)(ho:o.op= .store ty x y)(g off:Nat)(hx:a.eval x= .pointer (some ⟨g,off,none⟩))(h1:Lj P ty)(ps ps':List Af)(hp:AT (prt g ps) rs rs')
 (z:Int) (hy:a.eval y= .int .i64 z) (hi:KF z ps off ps') (hd:o.dst=none) (h:∀w',St W w' (prt g ps'::rs')→K a w'):o.wp P a w K Q:=by
 obtain ⟨h2,h3⟩:=hi.eq
 refine Bv hS ty x y ho g off hx h1 (AF ps) (AF ps') hp (.int .i64 z) (.int hy) rfl ?_ hd h
 rw [h3];exact EN.of h2
theorem Hz(hS:St W w rs)(ty:TypeId)(x y:Operand)(ho:o.op= .store ty x y)(g off:Nat)(hx:a.eval x= .pointer (some ⟨g,off,none⟩))(h1:Lj P ty)(ps ps':List Af)(hp:AT (prt g ps) rs rs')
 (z:Value) (hy:DV (a.eval y) z) (hz:z.oneCell'=true) (hi:G5 z ps off ps') (hd:o.dst=none) (h:∀w',St W w' (prt g ps'::rs')→K a w'):o.wp P a w K Q:=by
 obtain ⟨h2,h3⟩:=hi.eq
 refine Bv hS ty x y ho g off hx h1 (AF ps) (AF ps') hp z hy hz ?_ hd h
 rw [h3];exact EN.of h2
def NY:Af→Bool
 | .ints _=>true
 | .val v=>v.oneCell'
theorem Gd:∀{ps:List Af},ps.all NY=true→(AF ps).all (·.oneCell')=true
 | [],_=>rfl
 | .ints l::ps,h=>by
   simp only [List.all_cons,Bool.and_eq_true] at h
   simp only [AF,Af.cells,List.all_append,Bool.and_eq_true]
   refine ⟨?_,Gd h.2⟩
   rw [List.all_eq_true];intro u hu;obtain ⟨x,_,rfl⟩:=List.mem_map.1 hu;rfl
 | .val v::ps,h=>by
   simp only [List.all_cons,Bool.and_eq_true] at h
   simp only [AF,Af.cells,List.all_append,Bool.and_eq_true]
   exact ⟨by simpa [NY] using h.1,Gd h.2⟩
theorem Fb(hS:St W w rs)(ty:TypeId)(x y:Operand)(ho:o.op= .store ty x y)(g:Nat)(hx:a.eval x= .pointer (some ⟨g,0,none⟩))(m:Nat)(h1:Ey P ty m)(ps ps':List Af)(hp:AT (prt g ps) rs rs')
 (hy:a.eval y= .agg (AF ps').toArray) (hn:Bx ps m ps) (hn':Bx ps' m ps') (hv:ps'.all NY=true) (hd:o.dst=none) (h:∀w',St W w' (prt g ps'::rs')→K a w'):o.wp P a w K Q:=
 CZ hS ty x y ho g hx m h1 (AF ps) (AF ps') hp hy hn.take.2 hn'.take.2 (Gd hv) hd h
theorem Gn(hS:St W w rs)(ty:TypeId)(ho:o.op= .alloc ty)(ps:List Af)(hz:∀w,(zeroValue ty).run P w= .ok (.agg (AF ps).toArray) w)
 (h:∀g w',St W w' (prt g ps::rs)→K (a.put o.dst (.pointer (some ⟨g,0,none⟩))) w'):o.wp P a w K Q:=
 B4 hS ty ho _ (AF ps) hz rfl h
end
end Go.Proofs.YtohacgmhmbijmaaGreatDoor
