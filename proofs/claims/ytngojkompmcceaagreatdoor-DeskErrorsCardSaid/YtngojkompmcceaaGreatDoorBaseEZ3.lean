/- What the laws DeskErrors need, part 3. -/
import Derived.Test.YtngojkompmcceaaGreatDoorBaseEZ1
import Derived.Test.YtngojkompmcceaaGreatDoorBaseEZ2
import Derived.Shelf.Strings.Builder1
import Derived.Shelf.Strings.Builder2
import Derived.Shelf.Strings.OnBuilder
import Derived.Shelf.Small.Bits
import Derived.Shelf.Strconv.Atoi
import Derived.Shelf.Strconv.Itoa0
import Derived.Shelf.Strconv.Itoa1
import Derived.Shelf.LaysM
import Derived.Shelf.Strconv.Itoa2
import Derived.Shelf.Strconv.Itoa3
import Derived.Shelf.Strconv.AtoiErrFast
import Derived.Shelf.Strconv.ParseIntEmpty
import Derived.Shelf.Strconv.AtoiFail
import Derived.Shelf.Strconv.Clone
import Derived.Shelf.Strconv.SyntaxError
import Derived.Shelf.LaysC
import Derived.Shelf.Strconv.ToError
import Derived.Shelf.Strconv.Lower
import Derived.Shelf.Strconv.ParseUint10
import Derived.Shelf.Strconv.ParseUint10Empty
import Derived.Shelf.Strconv.ParseUint10Any
import Derived.Shelf.Strconv.ParseInt10
import Derived.Shelf.Strconv.AtoiLong
import Derived.Shelf.Strconv.AtoiInnerAll
import Derived.Shelf.Strconv.RangeError
import Derived.Shelf.Strconv.ToErrorRange
import Derived.Shelf.Strconv.AtoiAll
import Derived.Shelf.Strings.Prefix
import Derived.Shelf.Strings.FieldsFuncAny
import Derived.Test.YtngojkompmcceaaGreatDoorProg
import Derived.Laws.Bits64b
import Derived.Lib.ItoaNum
namespace Go.Proofs.YtngojkompmcceaaGreatDoor
attribute [local irreducible] Region.wanted
open Go.RowKit
set_option linter.unusedVariables false
set_option maxRecDepth 100000
set_option maxHeartbeats 8000000
theorem Cn(m0:Int)(m1:Int)(m2:Int)(m3:Int)(m4:Int)(m5:Int)(m6:Int)(m7:Int)(m8:Int)(w:World):(Instr.build 140 #[(0, .int .i64 m0),(1, .int .i64 m1),(2, .int .i64 m2),(3, .int .i64 m3),(4, .int .i64 m4),(5, .int .i64 m5),(6, .int .i64 m6),(7, .int .i64 m7),(8, .int .i64 m8)]).run Tryz.prog w= .ok (.agg #[.int .i64 m0, .int .i64 m1, .int .i64 m2, .int .i64 m3, .int .i64 m4, .int .i64 m5, .int .i64 m6, .int .i64 m7, .int .i64 m8]) w:=by kernel_rfl
theorem O1(w:World):(Instr.build 33 #[]).run Tryz.prog w= .ok (.agg (iv ((List.replicate 64 0)))) w:=by kernel_rfl
def tq(k:Int):Int:=AG [4096,4017,3784,3406,2896,2276,1567,799,0] k.toNat
def Gk(k:Int):Int:=if 16<k then (if 8<32-k then-tq (16-(32-k)) else tq (32-k)) else if 8<k then-tq (16-k) else tq k
def F8(u x:Int):Int:=if u=0 then 2896 else Gk (u*(2*x+1)%32)
theorem If(k:Int): -4096≤tq k∧tq k≤4096:=by
 unfold tq
 have:∀l:List Int,(∀x∈l,-4096≤x∧x≤4096)→∀i,-4096≤AG l i∧AG l i≤4096:=fun l hl i=>by
  by_cases hi:i<l.length
  ·have:=hl _ (List.getElem_mem hi)
   simpa [AG,List.getD,hi] using this
  rw [Hb l i (by omega)];omega
 exact this _ (by decide) _
theorem MP(k:Int): -4096≤Gk k∧Gk k≤4096:=by
 have h1:=If (16-(32-k))
 have h2:=If (32-k)
 have h3:=If (16-k)
 have h4:=If k
 unfold Gk
 split
 ·split<;>omega
 split<;>omega
theorem Je(u x:Int): -4096≤F8 u x∧F8 u x≤4096:=by
 unfold F8
 split
 ·omega
 exact MP _
theorem Ig(w0:World)(k:Int)(h:0≤k∧k≤8):Calls Tryz.prog 70 #[.int .i64 k] w0 fun e w=>e= .returned (.int .i64 (tq k))∧AP w0 w:=by
 have hS:=St.start w0
 obtain rfl|rfl|rfl|rfl|rfl|rfl|rfl|rfl|rfl:k=0∨k=1∨k=2∨k=3∨k=4∨k=5∨k=6∨k=7∨k=8:=by omega
 all_goals
  go_enter Tryz.func70,Tryz.ntmps70
  repeat' (first
   | refine X0 ?_|refine QA 4 ?_|refine X9 ?_|(refine AM 19 ?_);(refine AY AA (V.indexAr Tryz.underlying140 BX rfl rfl BW (by omega) (Nat.mul_one _) Br) ?_;go_step)|refine Pr 3 ?_;clear hS;intro g3 w hS|refine Pt ?_;clear hS;intro w hS|refine PZ ?_|refine AF ?_;go_step|fail)
  go_ret
  exact ⟨rfl,hS.1⟩
theorem Ih(w0:World)(k:Int)(h:0≤k∧k≤16):Calls Tryz.prog 70 #[.int .i64 k] w0 fun e w=>e= .returned (.int .i64 (if 8<k then-tq (16-k) else tq k))∧AP w0 w:=by
 by_cases h8:8<k
 ·rw [if_pos h8]
  have hS:=St.start w0
  have hb:=If (16-k)
  go_enter Tryz.func70,Tryz.ntmps70
  repeat' (first
   | (refine Av 70 ?_);refine Aw AA Tryz.call70 (Ig _ (16-k) (by omega)) (Dj hS ?_);clear hS;intro w hS;go_step|refine X0 ?_|refine QA 4 ?_|refine X9 ?_|refine Oi ?_|(with_reducible refine Al _ (.unOp .neg _ _) ?_);(refine AY AA (V.neg rfl (by omega)) ?_;go_step)|refine Pr 3 ?_;clear hS;intro g3 w hS|refine Pt ?_;clear hS;intro w hS|refine AF ?_;go_step|fail)
  go_ret
  exact ⟨rfl,hS.1⟩
 rw [if_neg h8]
 exact Ig w0 k (by omega)
theorem MQ(w0:World)(k:Int)(h:0≤k∧k≤31):Calls Tryz.prog 70 #[.int .i64 k] w0 fun e w=>e= .returned (.int .i64 (Gk k))∧AP w0 w:=by
 unfold Gk
 by_cases h16:16<k
 ·rw [if_pos h16]
  have hS:=St.start w0
  obtain ⟨tv,hV⟩:∃tv,(if 8<32-k then-tq (16-(32-k)) else tq (32-k))=tv:=⟨_,rfl⟩
  have HV:=AD hV
  rw [hV]
  clear hV
  go_enter Tryz.func70,Tryz.ntmps70
  repeat' (first
   | (refine Av 70 ?_);refine Aw AA Tryz.call70 (Ih _ (32-k) (by omega)) ?_;rintro e w ⟨rfl,hE⟩;replace hS:=hS.ext hE;clear hE;rw [HV.out];refine A9 ?_;go_step|refine X0 ?_|refine QA 4 ?_|refine X9 ?_|refine Oi ?_|refine Pr 3 ?_;clear hS;intro g3 w hS|refine Pt ?_;clear hS;intro w hS|refine AF ?_;go_step|fail)
  go_ret
  exact ⟨rfl,hS.1⟩
 rw [if_neg h16]
 exact Ih w0 k (by omega)
theorem GK(w0:World)(u x:Int)(hu:0≤u∧u≤7)(hx:0≤x∧x≤7):Calls Tryz.prog 44 #[.int .i64 u, .int .i64 x] w0 fun e w=>e= .returned (.int .i64 (F8 u x))∧AP w0 w:=by
 have hS:=St.start w0
 unfold F8
 by_cases h0:u=0
 ·subst h0
  rw [if_pos rfl]
  go_enter Tryz.func44,Tryz.ntmps44
  repeat' (first
   | refine X0 ?_|refine Mz ?_|refine AF ?_;go_step|fail)
  go_ret
  exact ⟨rfl,hS.1⟩
 rw [if_neg h0]
 obtain ⟨k0,k1⟩:=EI u (2*x+1) 7 15 (by omega) (by omega)
 have k2:0≤u*(2*x+1):=Int.mul_nonneg (by omega) (by omega)
 obtain ⟨p,hp⟩:∃p,u*(2*x+1)=p:=⟨_,rfl⟩
 rw [hp] at k0 k1 k2⊢
 go_enter Tryz.func44,Tryz.ntmps44
 repeat' (first
  | (refine AM 11 ?_);(refine AR (.int _ (p)) (V.as (V.mulI rfl rfl (by omega)) (by omega)) (by kernel_rfl) ?_;go_step)|(refine Av 70 ?_);refine Aw AA Tryz.call70 (MQ _ (p%32) (by omega)) (Dj hS ?_);clear hS;intro w hS;go_step|refine X0 ?_|refine Mz ?_|(with_reducible refine Al _ (.binOp .mul _ _ _ _) ?_);(refine AY AA (V.mulI rfl rfl (by omega)) ?_;go_step)|refine X5 ?_|(with_reducible refine Al _ (.binOp .rem _ _ _ _) ?_);(refine AY AA (V.rem rfl rfl (by omega) (by omega)) ?_;go_step)|refine AF ?_;go_step|fail)
 go_ret
 exact ⟨rfl,hS.1⟩
theorem L3(a b A B:Int)(ha: -A≤a∧a≤A)(hb: -B≤b∧b≤B): -(A*B)≤a*b∧a*b≤A*B:=by
 have hA:0≤A:=by omega
 have hB:0≤B:=by omega
 have h1:(a*b).natAbs≤(A*B).natAbs:=by
  rw [Int.natAbs_mul,Int.natAbs_mul];exact Nat.mul_le_mul (by omega) (by omega)
 have h2:0≤A*B:=Int.mul_nonneg hA hB
 omega
def LC(f:Nat→Int):Nat→Int
 | 0=>0
 | n+1=>LC f n+f n
theorem N1(f:Nat→Int)(B:Int)(n:Nat)(h:∀i,i<n→ -B≤f i∧f i≤B): -(n*B)≤LC f n∧LC f n≤n*B:=by
 induction n with
 | zero=>simp [LC]
 | succ n ih=>
   have h1:=ih fun i hi=>h i (by omega)
   have h2:=h n (by omega)
   have e:((n+1:Nat):Int)*B=n*B+B:=by push_cast;rw [Int.add_mul,Int.one_mul]
   rw [e];simp only [LC];omega
structure Mt(K:FuncId)(cf:Int→Int→Int):Prop where
 call:∀(args:Array Value)(w:World),(callFunc K args).run Tryz.prog w= .ok (.enter K args) w
 run:∀(i k:Nat)(w:World),i<8→k<8→Calls Tryz.prog K #[.int .i64 i, .int .i64 k] w fun e w'=>e= .returned (.int .i64 (cf i k))∧AP w w'
 bd:∀i k:Int,-4096≤cf i k∧cf i k≤4096
def M7(b:List Int)(cf:Int→Int→Int)(p k:Nat):Int:=AG b (8*(p%8)+k)*cf (p/8:Nat) k
def Pn(b:List Int)(cf:Int→Int→Int)(p:Nat):Int:=LC (M7 b cf p) 8
def Iq(b:List Int)(cf:Int→Int→Int):List Int:=tab 64 (Pn b cf)
def Ml(b:List Int)(cf:Int→Int→Int)(r i k p:Nat):Int:=if p%8<r∨p%8=r∧p/8<i then Pn b cf p else if p%8=r∧p/8=i then LC (M7 b cf p) k else 0
theorem GJ(w0:World)(b:List Int)(K:FuncId)(cf:Int→Int→Int)(hK:Mt K cf)(hb:A2 b 64)(hB:∀i,-2000000000≤AG b i∧AG b i≤2000000000):
 Calls Tryz.prog 69 #[.agg (iv b), .func (.func K) #[] #[]] w0 fun e w=>e= .returned (.agg (iv (Iq b cf)))∧AP w0 w:=by
 have hS:=St.start w0
 have HK:=AD hK
 have HB:=AD hB
 clear hK hB
 go_enter Tryz.func69,Tryz.ntmps69
 repeat' (first
  | refine X1 ?_|refine Mx 2 ?_;clear hS;intro g2 w hS|refine K7 4 ?_;clear hS;intro g4 w hS|refine AF ?_;go_step|fail)
 go_loopg [8] 8 (fun gk kv w=>∃(r:Nat) (o:List Int),gk+r=8∧kv= .int .i64 r∧(∀p,p<64→AG o p=Ml b cf r 0 0 p)∧St w0 w [arr g4 64 o,arr g2 64 b])
 case atStart=>exact ⟨0,_,rfl,rfl,fun p hp=>by rw [GW];unfold Ml;rw [if_neg (by omega)];split<;>rfl,hS.sub Ae⟩
 case round=>
  clear hS
  obtain ⟨r,o,hr,rfl,ho,hS⟩:=hrel
  have HO:=AD ho
  clear ho
  by_cases hlt:r<8
  ·obtain ⟨gk1,hgk1⟩:∃x,x=gk:=⟨_,rfl⟩
   subst hgk1
   repeat' (first
    | refine X0 ?_|refine X3 ?_|refine AF ?_;go_step|fail)
   go_loopg [11] 8 (fun gk kv w=>∃(i:Nat) (o:List Int),gk+i=8∧kv= .int .i64 i∧(∀p,p<64→AG o p=Ml b cf r i 0 p)∧St w0 w [arr g4 64 o,arr g2 64 b])
   case atStart=>exact ⟨0,o,rfl,rfl,HO.out,hS.sub Ae⟩
   case round=>
    clear hS HO
    obtain ⟨i,o,hi,rfl,ho,hS⟩:=hrel
    have HO:=AD ho
    clear ho
    by_cases hlt2:i<8
    ·obtain ⟨gk2,hgk2⟩:∃x,x=gk:=⟨_,rfl⟩
     subst hgk2
     repeat' (first
      | refine X0 ?_|refine X3 ?_|refine AF ?_;go_step|fail)
     go_loopg [14] 8 (fun gk kv w=>∃(k:Nat) (o:List Int),gk+k=8∧kv= .int .i64 k∧(∀p,p<64→AG o p=Ml b cf r i k p)∧St w0 w [arr g4 64 o,arr g2 64 b])
     case atStart=>exact ⟨0,o,rfl,rfl,HO.out,hS.sub Ae⟩
     case round=>
      clear hS HO
      obtain ⟨k,o,hk,rfl,ho,hS⟩:=hrel
      have HO:=AD ho
      have hop:=ho (8*i+r) (by omega)
      clear ho
      by_cases hlt3:k<8
      ·obtain ⟨cv,hcv⟩:∃cv,cf (i:Nat) (k:Nat)=cv:=⟨_,rfl⟩
       have hc:=HK.out.bd (i:Nat) (k:Nat)
       rw [hcv] at hc
       have hbb:=HB.out (8*r+k)
       obtain ⟨m0,m1⟩:=L3 (AG b (8*r+k)) cv 2000000000 4096 (by omega) (by omega)
       have hop2:AG o (8*i+r)=LC (M7 b cf (8*i+r)) k:=by
        rw [hop];unfold Ml;rw [if_neg (by omega),if_pos (by omega)]
       have hsb: -(k*8192000000000)≤LC (M7 b cf (8*i+r)) k∧LC (M7 b cf (8*i+r)) k≤k*8192000000000:=N1 _ _ _ fun j hj=>by
        have h1:=HK.out.bd (((8*i+r)/8:Nat)) j
        have h2:=HB.out (8*((8*i+r)%8)+j)
        have:=L3 (AG b (8*((8*i+r)%8)+j)) (cf (((8*i+r)/8:Nat)) j) 2000000000 4096 (by omega) (by omega)
        unfold M7;omega
       have hob: -70000000000000≤AG o (8*i+r)∧AG o (8*i+r)≤70000000000000:=by rw [hop2];omega
       have HN:Hid (AG o (8*i+r)+AG b (8*r+k)*cv=LC (M7 b cf (8*i+r)) (k+1)):=by
        unfold Hid;rw [hop2,LC,M7,show (8*i+r)%8=r by omega,show (8*i+r)/8=i by omega,hcv]
       have HCV:=AD hcv
       clear hop hop2 hsb hcv
       repeat' (first
        | refine X0 ?_|refine X3 ?_|refine AF ?_;go_step|fail)
       refine AT [19] (fun w=>St w0 w [arr g4 64 o,arr g2 64 b]) AA ?_
       replace hS:=hS.drew
       focus
        refine Ab 0 ?_
        refine DH 1 CY (V.mulI rfl rfl (by omega)) ?_;go_step
        refine Ab 2 ?_
        refine DH 3 CY (V.addI rfl rfl (by omega)) ?_;go_step
        refine Y7 4 ?_
        refine Qa 5 [17,18,19] ?_
        refine Ab 6 ?_
        refine DH 7 CY (V.mulI rfl rfl (by omega)) ?_;go_step
        refine Ab 8 ?_
        refine DH 9 CY (V.addI rfl rfl (by omega)) ?_;go_step
        refine Y7 10 ?_
        refine Qa 11 [16,17,18,19] ?_
        refine Ab 12 ?_
        refine Ab 13 ?_
        refine Ab 14 ?_
        refine CC 15 ?_
        refine BT (f:=K) rfl rfl HK.out.call (HK.out.run i k _ (by omega) (by omega)) ?_;rintro e w ⟨rfl,hE⟩;replace hS:=hS.ext hE;clear hE;rw [HCV.out];refine ⟨_,rfl,?_⟩
        refine ⟨fun _ _=>hS.sub Ae,?_⟩
        refine AJ ?_
        go_step
        refine DH 16 CY (V.mulI rfl rfl (by omega)) ?_;go_step
        refine DH 17 CY (V.addI rfl rfl (by omega)) ?_;go_step
        refine Y7 18 ?_
        refine CC 19 ?_
        (refine Fy hS 3 _ _ rfl _ _ rfl (Ac rfl) _ _ AS _ (by rfl) (by omega) rfl ?_;clear hS;intro w hS)
        refine ⟨fun h=>absurd (by decide) h,?_⟩
        refine AL AA ?_ _
       repeat' (first
        | refine X1 ?_|refine X5 ?_|refine AF ?_;go_step|fail)
       go_roundg (gk-1)
       case measure=>omega
       case rel=>
        have hol:=(hS.arr (g:=g4) (n:=64) AS).2
        rw [List.length_set] at hol
        refine ⟨k+1,_,by omega,by go_num,fun p hp=>?_,hS.sub Ae⟩
        rw [EM o (8*i+r) p _ (by omega)]
        split
        ·rename_i e
         subst e
         rw [HN.out];unfold Ml;rw [if_neg (by omega),if_pos (by omega)]
        rename_i e
        rw [HO.out p hp];unfold Ml
        by_cases h1:p%8<r∨p%8=r∧p/8<i
        ·rw [if_pos h1,if_pos h1]
        rw [if_neg h1,if_neg h1,if_neg (by omega),if_neg (by omega)]
      obtain rfl:k=8:=by omega
      repeat' (first
       | refine X1 ?_|refine X3 ?_|refine X5 ?_|refine AF ?_;go_step|fail)
      go_roundg (gk2-1)
      case measure=>omega
      case rel=>
       refine ⟨i+1,o,by omega,by go_num,fun p hp=>?_,hS.sub Ae⟩
       rw [HO.out p hp];unfold Ml Pn
       by_cases h1:p%8<r∨p%8=r∧p/8<i
       ·rw [if_pos h1,if_pos (by omega)]
       rw [if_neg h1]
       by_cases h2:p%8=r∧p/8=i
       ·rw [if_pos h2,if_pos (by omega)]
       rw [if_neg h2,if_neg (by omega)];split<;>rfl
    obtain rfl:i=8:=by omega
    repeat' (first
     | refine X1 ?_|refine X3 ?_|refine X5 ?_|refine AF ?_;go_step|fail)
    go_roundg (gk1-1)
    case measure=>omega
    case rel=>
     refine ⟨r+1,o,by omega,by go_num,fun p hp=>?_,hS.sub Ae⟩
     rw [HO.out p hp];unfold Ml
     by_cases h1:p%8<r∨p%8=r∧p/8<8
     ·rw [if_pos h1,if_pos (by omega)]
     rw [if_neg h1,if_neg (by omega),if_neg (by omega)];split<;>rfl
  obtain rfl:r=8:=by omega
  have hol:=(hS.arr (g:=g4) (n:=64) AS).2
  have lo:A2 o 64:=hol
  repeat' (first
   | refine X3 ?_|refine Mi ?_|refine LN ?_;clear hS;intro w hS|refine AF ?_;go_step|fail)
  refine Cd rfl (AC.arr hS rfl (Ad (n:=64) rfl) AS) rfl ?_
  refine ⟨?_,hS.1⟩
  rw [Iq,←MJ hol fun p hp=>by rw [HO.out p hp];unfold Ml;rw [if_pos (by omega)]]
def K6(b:List Int):Bool:=BJ b (-40000) 40000
def PR(cf:Int→Int→Int)(b:List Int)(p:Nat):Int:=El (AG (Iq (Iq b cf) cf) p) 67108864
def Ms(cf:Int→Int→Int)(b:List Int):List Int:=if K6 b then tab 64 (PR cf b) else List.replicate 64 0
def MV(b:List Int):Int:=if K6 b then 0 else 1
theorem Cf(cf:Int→Int→Int)(b:List Int):A2 (Ms cf b) 64:=by
 show (Ms cf b).length=64
 unfold Ms;split
 ·exact EV _ _
 simp
theorem LO(b:List Int)(cf:Int→Int→Int)(hc:∀i k:Int,-4096≤cf i k∧cf i k≤4096)(B:Int)(hB:∀i,-B≤AG b i∧AG b i≤B)(i:Nat): -(8*(B*4096))≤AG (Iq b cf) i∧AG (Iq b cf) i≤8*(B*4096):=by
 have h0:=hB 0
 by_cases hi:i<64
 ·rw [Iq,Jm _ _ _ hi,Pn]
  have:=N1 (M7 b cf i) (B*4096) 8 fun j hj=>L3 _ _ _ _ (hB _) (hc _ _)
  simpa using this
 rw [Hb _ _ (by rw [Iq,EV];omega)];omega
theorem PH{b:List Int}(h:K6 b=true)(i:Nat): -40000≤AG b i∧AG b i≤40000:=by
 by_cases hi:i<b.length
 ·exact (BZ _ _ _).1 h i hi
 rw [Hb _ _ (by omega)];omega
theorem Fs(n:Int)(w:World):Calls Tryz.prog 68 #[.int .i64 n] w fun e w'=>e= .returned (.bool (decide (n< -40000)||decide (40000<n)))∧w=w':=by
 go_enter Tryz.func68,Tryz.ntmps68
 repeat' (first
  | go_skip|((first|(with_reducible refine F2 ?_)|(with_reducible refine LA ?_));(first|go_big_want|go_step);go_step)|((with_reducible refine Al _ (.pick _ _ _) ?_);first|(refine Ag rfl AA ?_;go_step)|(refine AZ rfl AA ?_;go_step))|((refine AM 4 ?_);(refine Bz _ (V.lss rfl rfl) AA (fun hB=>?_) (fun hB=>?_)<;>(try exact Ak)<;>go_step))|((with_reducible refine Al _ (.binOp .gtr _ _ _ _) ?_);(refine AY AA (V.gtr rfl rfl) ?_;go_step))|(refine AF ?_;go_step)|fail)
 all_goals (go_ret;exact ⟨EP (by simp;omega),rfl⟩)
theorem Hx(l:List Int):(l.any fun n=>decide (n< -40000)||decide (40000<n))= !K6 l:=by unfold K6 BJ;simp
theorem Gl(w0:World)(b:List Int)(K:FuncId)(cf:Int→Int→Int)(hK:Mt K cf)(hb:A2 b 64):
 Calls Tryz.prog 43 #[.agg (iv b), .func (.func K) #[] #[]] w0 fun e w=>e= .returned (.tuple #[.agg (iv (Ms cf b)), .int .i64 (MV b)])∧AP w0 w:=by
 have hS:=St.start w0
 have HK:=AD hK
 clear hK
 cases hok:K6 b
 ·have HO:=AD hok
  clear hok
  go_enter Tryz.func43,Tryz.ntmps43
  repeat' (first
   | (refine Av 65 ?_);refine Aw AA Tryz.call65 (Au _ _ b (hS.isl AS (by omega)) 68 #[] (fun n=>decide (n< -40000)||decide (40000<n)) Tryz.call68 (fun n=>Fs n _)) ?_;rintro e w' ⟨rfl,rfl⟩;rw [Hx,HO.out];refine A9 ?_;go_step|refine X7 ?_|refine Ok ?_|(refine AM 10 ?_);(refine AY AA (V.build (vs:=[]) rfl (O1)) ?_;go_step)|refine Mx 2 ?_;clear hS;intro g2 w hS|refine K7 4 ?_;clear hS;intro g4 w hS|refine LN ?_;clear hS;intro w hS|refine AF ?_;go_step|fail)
  refine AI (xs:=[_,_]) rfl (.cons (AC.arr hS rfl (Ad (n:=64) rfl) AS) (.cons (AC.tmp rfl) (.nil))) (by simp) rfl ?_
  exact ⟨by unfold Ms MV;rw [HO.out];rfl,hS.1⟩
 have HO:=AD hok
 have HB1:=AD (PH hok)
 have HB2:=AD (LO b cf HK.out.bd 40000 HB1.out)
 have HB3:=AD (LO (Iq b cf) cf HK.out.bd (8*(40000*4096)) HB2.out)
 have hl1:A2 (Iq b cf) 64:=EV _ _
 have hl2:A2 (Iq (Iq b cf) cf) 64:=EV _ _
 clear hok
 go_enter Tryz.func43,Tryz.ntmps43
 repeat' (first
  | (refine Av 65 ?_);refine Aw AA Tryz.call65 (Au _ _ b (hS.isl AS (by omega)) 68 #[] (fun n=>decide (n< -40000)||decide (40000<n)) Tryz.call68 (fun n=>Fs n _)) ?_;rintro e w' ⟨rfl,rfl⟩;rw [Hx,HO.out];refine A9 ?_;go_step|(refine AM 13 ?_);refine Ay (f:=69) Tryz.call69 AA ?_;refine ⟨_,GJ _ b K cf HK.out (by assumption) (fun i=>by have:=HB1.out i;omega),?_⟩;rintro e w ⟨rfl,hE⟩;replace hS:=hS.ext hE;clear hE;refine A9 ?_;go_step|(refine AM 15 ?_);refine Ay (f:=69) Tryz.call69 AA ?_;refine ⟨_,GJ _ (Iq b cf) K cf HK.out (by assumption) (fun i=>by have:=HB2.out i;omega),?_⟩;rintro e w ⟨rfl,hE⟩;replace hS:=hS.ext hE;clear hE;refine A9 ?_;go_step|refine X0 ?_|refine Ok ?_|refine Mx 2 ?_;clear hS;intro g2 w hS|refine K7 4 ?_;clear hS;intro g4 w hS|refine LN ?_;clear hS;intro w hS|refine Mi ?_|refine AF ?_;go_step|fail)
 obtain ⟨al,hal⟩:∃al,Iq (Iq b cf) cf=al:=⟨_,rfl⟩
 rw [hal] at hS hl2⊢
 have HAL:=AD hal
 have HB4:Hid (∀i,-2305843009213693951≤AG al i∧AG al i≤2305843009213693951):=fun i=>by have:=HB3.out i;rw [HAL.out] at this;omega
 clear hal HB3 HB2 HB1 hl1
 go_loopg [17] 64 (fun gk kv w=>∃(i:Nat) (o:List Int),gk+i=64∧kv= .int .i64 i∧(∀p,p<i→AG o p=PR cf b p)∧St w0 w [arr g2 64 o,arr g4 64 (List.replicate 64 0)])
 case atStart=>exact ⟨0,_,rfl,rfl,fun p hp=>by omega,hS.sub Ae⟩
 case round=>
  clear hS
  obtain ⟨i,o,hi,rfl,ho,hS⟩:=hrel
  have HO2:=AD ho
  clear ho
  have hol:=(hS.arr (g:=g2) (n:=64) AS).2
  by_cases hlt:i<64
  ·have hbb:=HB4.out i
   have HV:Hid (El (AG al i) 67108864=PR cf b i):=by unfold Hid PR;rw [HAL.out]
   repeat' (first
    | (refine Av 48 ?_);refine Aw AA Tryz.call48 (Em (AG al i) 67108864 _ (by omega) (by omega) (by omega) (by omega)) ?_;rintro e w' ⟨rfl,rfl⟩;rw [HV.out];refine A9 ?_;go_step|refine X0 ?_|refine X3 ?_|refine QY 20 ?_|refine QB 24 ?_|refine X5 ?_|refine QS ?_;clear hS;intro w hS|refine AF ?_;go_step|fail)
   go_roundg (gk-1)
   case measure=>omega
   case rel=>
    refine ⟨i+1,_,by omega,by go_num,fun p hp=>?_,hS.sub Ae⟩
    rw [EM o i p _ (by omega)]
    split
    ·rename_i e;rw [e]
    exact HO2.out p (by have h9:p<i+1:=hp;omega)
  obtain rfl:i=64:=by omega
  have lo:A2 o 64:=hol
  have hw:o=tab 64 (PR cf b):=MJ hol fun p hp=>HO2.out p hp
  have HW:=AD hw
  clear hw
  repeat' (first
   | refine X7 ?_|refine X3 ?_|refine Mi ?_|refine LN ?_;clear hS;intro w hS|refine AF ?_;go_step|fail)
  refine AI (xs:=[_,_]) rfl (.cons (AC.arr hS rfl (Ad (n:=64) rfl) AS) (.cons (AC.tmp rfl) (.nil))) (by simp) rfl ?_
  exact ⟨by unfold Ms MV;rw [HO.out,HW.out];rfl,hS.1⟩
theorem Iu:Mt 44 F8:=⟨Tryz.call44,fun i k w h1 h2=>GK w i k (by omega) (by omega),Je⟩
def O6(i k:Int):Int:=F8 k i
def Pq(b:List Int):List Int:=Ms F8 b
def Jt(b:List Int):List Int:=Ms O6 b
theorem Nn(w0:World)(b:List Int)(hb:A2 b 64):Calls Tryz.prog 23 #[.agg (iv b)] w0 fun e w=>e= .returned (.tuple #[.agg (iv (Pq b)), .int .i64 (MV b)])∧AP w0 w:=by
 have hS:=St.start w0
 have hl:A2 (Ms F8 b) 64:=Cf _ _
 go_enter Tryz.func23,Tryz.ntmps23
 repeat' (first
  | (refine Av 43 ?_);refine Aw AA Tryz.call43 (Gl _ b 44 F8 Iu (by assumption)) (Dj hS ?_);clear hS;intro w hS;go_step|refine X7 ?_|refine X8 ?_|refine Mx 1 ?_;clear hS;intro g1 w hS|refine K7 2 ?_;clear hS;intro g2 w hS|refine Mi ?_|refine LN ?_;clear hS;intro w hS|refine AF ?_;go_step|fail)
 refine AI (xs:=[_,_]) rfl (.cons (AC.arr hS rfl (Ad (n:=64) rfl) AS) (.cons (AC.tmp rfl) (.nil))) (by simp) rfl ?_
 exact ⟨rfl,hS.1⟩
theorem KK(w0:World)(i k:Int)(hu:0≤i∧i≤7)(hx:0≤k∧k≤7):Calls Tryz.prog 45 #[.int .i64 i, .int .i64 k] w0 fun e w=>e= .returned (.int .i64 (O6 i k))∧AP w0 w:=by
 have hS:=St.start w0
 go_enter Tryz.func45,Tryz.ntmps45
 repeat' (first
  | (refine Av 44 ?_);refine Aw AA Tryz.call44 (GK _ k i (by omega) (by omega)) (Dj hS ?_);clear hS;intro w hS;go_step|refine X0 ?_|refine AF ?_;go_step|fail)
 go_ret
 exact ⟨rfl,hS.1⟩
theorem KA:Mt 45 O6:=⟨Tryz.call45,fun i k w h1 h2=>KK w i k (by omega) (by omega),fun i k=>Je k i⟩
theorem Ks(w0:World)(b:List Int)(hb:A2 b 64):Calls Tryz.prog 25 #[.agg (iv b)] w0 fun e w=>e= .returned (.tuple #[.agg (iv (Jt b)), .int .i64 (MV b)])∧AP w0 w:=by
 have hS:=St.start w0
 have hl:A2 (Ms O6 b) 64:=Cf _ _
 go_enter Tryz.func25,Tryz.ntmps25
 repeat' (first
  | (refine Av 43 ?_);refine Aw AA Tryz.call43 (Gl _ b 45 O6 KA (by assumption)) (Dj hS ?_);clear hS;intro w hS;go_step|refine X7 ?_|refine X8 ?_|refine Mx 1 ?_;clear hS;intro g1 w hS|refine K7 2 ?_;clear hS;intro g2 w hS|refine Mi ?_|refine LN ?_;clear hS;intro w hS|refine AF ?_;go_step|fail)
 refine AI (xs:=[_,_]) rfl (.cons (AC.arr hS rfl (Ad (n:=64) rfl) AS) (.cons (AC.tmp rfl) (.nil))) (by simp) rfl ?_
 exact ⟨rfl,hS.1⟩
end Go.Proofs.YtngojkompmcceaaGreatDoor
namespace Go.Proofs.YtngojkompmcceaaGreatDoor
open Go.RowKit
set_option linter.unusedVariables false
set_option maxRecDepth 100000
set_option maxHeartbeats 8000000
theorem Kt(n lo hi:Int)(p q:Addr)(w:World)(hp:w.cell? p=some (.int .i64 lo))(hq:w.cell? q=some (.int .i64 hi)):
 Calls Tryz.prog 89 #[.int .i64 n, .pointer (some p), .pointer (some q)] w fun e w'=>e= .returned (.bool (decide (n<lo)||decide (hi<n)))∧w=w':=by
 by_cases h:n<lo
 ·have h2:decide (n<lo)=true:=by simpa using h
  rw [h2]
  go_enter Tryz.func89,Tryz.ntmps89
  go_wp2_with fail
  go_ret
  exact ⟨rfl,rfl⟩
 have h2:decide (n<lo)=false:=by simpa using h
 rw [h2,Bool.false_or]
 have h3:lo≤n:=by omega
 clear h
 go_enter Tryz.func89,Tryz.ntmps89
 go_wp2_with fail
 go_ret
 exact ⟨rfl,rfl⟩
theorem Ch(w:World)(l:List Int)(hl:l.length=64)(lo hi:Int):Calls Tryz.prog 62 #[.agg (iv l), .int .i64 lo, .int .i64 hi] w fun e w'=>e= .returned (.bool (BJ l lo hi))∧AP w w':=by
 have hmf:∀(fn:Fn)(first cap:Array Value)(w:World),(Instr.makeFunc fn first cap).run Tryz.prog w= .ok (.func fn first cap) w:=fun _ _ _ _=>rfl
 have HL:=AD hl
 clear hl
 go_enter Tryz.func62,Tryz.ntmps62
 go_wp2_with (refine wpList_box_iv rfl 33 _ rfl l rfl ?_;intro w1 hR hE hz)
 have hR2:=(hR.alloc (.cells #[.int .i64 lo] 3)).alloc (.cells #[.int .i64 hi] 3)
 have hE2:=(hE.alloc (.cells #[.int .i64 lo] 3)).alloc (.cells #[.int .i64 hi] 3)
 have hp:((w1.alloc (.cells #[.int .i64 lo] 3)).alloc (.cells #[.int .i64 hi] 3)).cell? ⟨w.heap.size+1,0,none⟩=some (.int .i64 lo):=by rw [←hz];simp [go_sem]
 have hq:((w1.alloc (.cells #[.int .i64 lo] 3)).alloc (.cells #[.int .i64 hi] 3)).cell? ⟨w.heap.size+1+1,0,none⟩=some (.int .i64 hi):=by rw [←hz];simp [go_sem]
 refine (Au _ _ l (Md.of_row hR2 HL.out (by unfold maxLen;omega)) 89 #[.pointer (some ⟨w.heap.size+1,0,none⟩), .pointer (some ⟨w.heap.size+1+1,0,none⟩)] (fun n=>decide (n<lo)||decide (hi<n)) Tryz.call89 (fun n=>Kt n lo hi _ _ _ hp hq)).mono ?_
 rintro e w' ⟨rfl,rfl⟩
 clear hp hq hR2
 go_wp2_with fail
 go_ret
 exact ⟨rfl,hE2⟩
def Kc(q:List Int):Bool:=BJ q 1 255
theorem C5(w:World)(q:List Int)(hq:q.length=64):Calls Tryz.prog 38 #[.agg (iv q)] w fun e w'=>e= .returned (.int .i64 (if Kc q then 0 else 1))∧AP w w':=by
 have HL:=AD hq
 have HI:=AD (show (Tryz.prog.info? 33).map (·.size)=some q.length by rw [hq];kernel_rfl)
 clear hq
 cases hk:Kc q
 all_goals
  have HK:=AD hk
  clear hk
  go_enter Tryz.func38,Tryz.ntmps38
  go_wp2_with (first
   | (refine wpList_box_iv rfl 33 _ rfl q rfl ?_;intro w1 hR hE hz)
   | (refine wpList_load_iv rfl 33 _ rfl w.heap.size rfl q _ hR Tryz.underlying33 rfl HI.out ?_)
   | (go_at_call 62;refine (Ch _ q HL.out 1 255).mono ?_;rintro e w' ⟨rfl,hE2⟩;rw [show BJ q 1 255=_ from HK.out];replace hE:=hE.trans hE2;clear hE2))
  go_ret
  exact ⟨rfl,hE⟩
theorem D8(n m:Int)(w:World)(h0:0≤m)(h1:m≤9223372036854775807):Calls Tryz.prog 42 #[.int .i64 n, .int .i64 m] w fun e w'=>e= .returned (.int .i64 (min (max n (-m)) m))∧w=w':=by
 go_enter Tryz.func42,Tryz.ntmps42
 go_wp2_with fail
 go_ret
 exact ⟨rfl,rfl⟩
theorem BL{P:Program}{fn:Func}{p u:Tmp}{ty:TypeId}(h:fn.results=#[.cell p ty, .tmp u])(tmps:Array Value)(w:World)(g:Nat)(l:List Int)(d:TypeDesc)
 (hp:tmps.getD p undef= .pointer (some ⟨g,0,none⟩)) (hr:B4 w g l) (hu:P.underlying ty=some d) (hd:d.isRow=true) (hi:(P.info? ty).map (·.size)=some l.length):
 (results fn tmps).run P w= .ok (.tuple #[.agg (iv l),tmps.getD u undef]) w:=by
 have hp':tmps[p]?.getD undef= .pointer (some ⟨g,0,none⟩):=by simpa using hp
 have hl:=run_loadVar_mid (P:=P) w g 0 ty (l.map (Value.int .i64)) d hr.range hu hd (by rw [hi,List.length_map])
 simp [results,h,hp',asAddr,hl,iv]
def Cu(g:Int→Int→Int)(b q:List Int):List Int:=List.zipWith g b q
theorem Fz(g:Int→Int→Int)(b q:List Int)(hb:b.length=64)(hq:q.length=64):(Cu g b q).length=64:=by simp [Cu,hb,hq]
theorem MZ(g:Int→Int→Int)(b q:List Int)(hb:b.length=64)(hq:q.length=64)(i:Nat)(hi:i<64):AG (Cu g b q) i=g (AG b i) (AG q i):=by
 simp [AG,Cu,List.getD,List.getElem?_zipWith,List.getElem?_eq_getElem (show i<b.length by omega),List.getElem?_eq_getElem (show i<q.length by omega)]
def Dq(m b:List Int)(i:Nat):List Int:=m.take i++b.drop i
theorem I6(m b:List Int):Dq m b 0=b:=by simp [Dq]
theorem KW(m b:List Int)(h:m.length=b.length):Dq m b b.length=m:=by simp [Dq,←h]
theorem KX(m b:List Int)(h:m.length=b.length)(i:Nat)(hi:i≤b.length):(Dq m b i).length=b.length:=by simp [Dq];omega
theorem KY(m b:List Int)(h:m.length=b.length)(i:Nat)(hi:i<b.length):(Dq m b i).set i (AG m i)=Dq m b (i+1):=by
 unfold Dq
 have e1:(m.take i).length=i:=by simp;omega
 rw [List.set_append_right _ _ (by omega),e1,Nat.sub_self,List.drop_eq_getElem_cons hi,List.set_cons_zero,List.take_add_one,List.getElem?_eq_getElem (by omega),List.append_assoc]
 simp [AG,List.getD,List.getElem?_eq_getElem (show i<m.length by omega)]
theorem IT(w:World)(b q:List Int)(hb:b.length=64)(hq:q.length=64)(most:Int)(hm0:0≤most)(hm1:most≤1000000)(K:Nat)(g:Int→Int→Int)
 (hk:∀(args:Array Value)(w:World),(callFunc K args).run Tryz.prog w= .ok (.enter K args) w)
 (hf:∀(n d:Int)(w:World),-most≤n→n≤most→1≤d→d≤255→Calls Tryz.prog K #[.int .i64 n, .int .i64 d] w fun e w'=>e= .returned (.int .i64 (g n d))∧w=w')
 (hQ:Kc q=true) (hB:BJ b (-most) most=true):
 Calls Tryz.prog 46 #[.agg (iv b), .agg (iv q), .int .i64 most, .func (.func K) #[] #[]] w fun e w'=>e= .returned (.tuple #[.agg (iv (Cu g b q)), .int .i64 0])∧AP w w':=by
 have HLb:=AD hb
 have HLq:=AD hq
 have HIb:=AD (show (Tryz.prog.info? 33).map (·.size)=some b.length by rw [hb];kernel_rfl)
 have HIq:=AD (show (Tryz.prog.info? 33).map (·.size)=some q.length by rw [hq];kernel_rfl)
 have HQ:=AD hQ
 have HB:=AD hB
 have HF:=AD hf
 have HZ:=AD (Fz g b q hb hq)
 clear hb hq hQ hB hf
 go_enter Tryz.func46,Tryz.ntmps46
 go_wp2_with (first
  | (refine wpList_box_iv rfl 33 _ rfl b rfl ?_;intro w1 hR1 hE1 hz1)
  | (refine wpList_box_iv rfl 33 _ rfl q rfl ?_;intro w2 hR2 hE2 hz2;replace hR1:=hR1.ext hE2;rw [hz1] at hR2 hz2;replace hE1:=hE1.trans hE2;clear hE2)
  | (refine wpList_alloc_iv rfl 33 rfl (List.replicate 64 0) (fun w=>Tryz.zeroValue33 w) ?_;intro w3 hR3 hE3 hz3;replace hR1:=hR1.ext hE3;replace hR2:=hR2.ext hE3;rw [hz2] at hR3 hz3;replace hE1:=hE1.trans hE3;clear hE3)
  | (refine wpList_load_iv rfl 33 _ rfl (w.heap.size+1) rfl q _ hR2 Tryz.underlying33 rfl HIq.out ?_)
  | (refine wpList_load_iv rfl 33 _ rfl w.heap.size rfl b _ hR1 Tryz.underlying33 rfl HIb.out ?_)
  | (go_at_call 38;refine (C5 _ q HLq.out).mono ?_;rintro e w' ⟨rfl,hE⟩;rw [HQ.out];replace hR1:=hR1.ext hE;replace hR2:=hR2.ext hE;replace hR3:=hR3.ext hE;replace hE1:=hE1.trans hE;clear hE))
 refine (Ch _ b HLb.out (-most) most).mono ?_
 rintro e w4 ⟨rfl,hE⟩
 rw [HB.out]
 replace hR1:=hR1.ext hE
 replace hR2:=hR2.ext hE
 replace hR3:=hR3.ext hE
 replace hE1:=hE1.trans hE
 clear hE
 go_wp2_with (first
  | (refine wpList_load_iv rfl 33 _ rfl w.heap.size rfl b _ hR1 Tryz.underlying33 rfl HIb.out ?_))
 go_loopg [27] 64 (fun gk xv wr=>∃(i:Nat),gk+i=64∧xv= .int .i64 i∧B4 wr w.heap.size (Dq (Cu g b q) b i)∧B4 wr (w.heap.size+1) q∧B4 wr (w.heap.size+1+1) (List.replicate 64 0)∧AP w wr)
 case atStart=>exact ⟨0,rfl,rfl,by rw [I6];exact hR1,hR2,hR3,hE1⟩
 case round=>
  clear hR1 hR2 hR3 hE1
  obtain ⟨i,hi,rfl,hR1,hR2,hR3,hE1⟩:=hrel
  by_cases hlt:i<64
  ·have hbi:=G7 b i (by rw [HLb.out];exact hlt)
   have hqi:=hR2.cell i (by rw [HLq.out];exact hlt)
   have hzb:(Cu g b q).length=b.length:=by rw [HZ.out,HLb.out]
   have hcell:=hR1.cell i (by rw [KX _ _ hzb i (by rw [HLb.out];omega),HLb.out];exact hlt)
   have hfree:=hR1.free i
   have h1:=hR1.set i (AG (Cu g b q) i)
   rw [KY _ _ hzb i (by rw [HLb.out];exact hlt),MZ g b q HLb.out HLq.out i hlt] at h1
   have HR1:=AD h1
   have HR2:=AD (hR2.setOther ⟨w.heap.size,i,none⟩ (.int .i64 (g (AG b i) (AG q i))) (by simp))
   have HR3:=AD (hR3.setOther ⟨w.heap.size,i,none⟩ (.int .i64 (g (AG b i) (AG q i))) (by simp;omega))
   have HE:=AD (hE1.setCell (a:=⟨w.heap.size,i,none⟩) (Nat.le_refl _) (.int .i64 (g (AG b i) (AG q i))))
   have HM:Hid (gk-1+(i+1)=64):=by unfold Hid;omega
   have HG:Hid (gk-1<gk):=by unfold Hid;omega
   have hbb:=(BZ _ _ _).1 HB.out i (by rw [HLb.out];exact hlt)
   have hqq:=(BZ _ _ _).1 HQ.out i (by rw [HLq.out];exact hlt)
   obtain ⟨hbb1,hbb2⟩:=hbb
   obtain ⟨hqq1,hqq2⟩:=hqq
   clear hi h1 hzb hR1 hR2 hR3 hE1
   go_wp2_with fail
   refine (HF.out (AG b i) (AG q i) _ hbb1 hbb2 hqq1 hqq2).mono ?_
   rintro e w' ⟨rfl,rfl⟩
   go_wp2_with fail
   go_roundg (gk-1)
   case measure=>exact HG.out
   case rel=>exact ⟨i+1,HM.out,by go_num,HR1.out,HR2.out,HR3.out,HE.out⟩
  obtain rfl:i=64:=by omega
  have h64:=KW (Cu g b q) b (by rw [HZ.out,HLb.out])
  rw [HLb.out] at h64
  rw [h64] at hR1
  have HIz:=AD (show (Tryz.prog.info? 33).map (·.size)=some (Cu g b q).length by rw [HZ.out];kernel_rfl)
  have HL:=AD (show (List.replicate 64 (0:Int)).length=(Cu g b q).length by rw [HZ.out];rfl)
  clear h64 hR2
  have hR4:=hR3.setRow (Cu g b q)
  have hE4:=hE1.setRow (g:=w.heap.size+1+1) (by omega) (iv (Cu g b q))
  go_wp2_with (first
   | (refine wpList_load_iv rfl 33 _ rfl w.heap.size rfl (Cu g b q) _ hR1 Tryz.underlying33 rfl HIz.out ?_)
   | (refine wpList_store_iv rfl 33 _ _ rfl (w.heap.size+1+1) rfl (Cu g b q) (List.replicate 64 0) rfl hR3 HIz.out HL.out ?_))
  refine bodyPost_ret (BL rfl _ _ (w.heap.size+1+1) (Cu g b q) _ rfl hR4 Tryz.underlying33 rfl HIz.out) rfl ?_
  exact ⟨rfl,hE4⟩
def BI:List Int:=List.replicate 64 0
theorem GZ(w:World)(b q:List Int)(hb:b.length=64)(hq:q.length=64)(most:Int)(hm0:0≤most)(hm1:most≤1000000)(K:Nat)
 (hQ:(Kc q&&BJ b (-most) most)=false):
 Calls Tryz.prog 46 #[.agg (iv b), .agg (iv q), .int .i64 most, .func (.func K) #[] #[]] w fun e w'=>e= .returned (.tuple #[.agg (iv BI), .int .i64 1])∧AP w w':=by
 have HLb:=AD hb
 have HLq:=AD hq
 have HIb:=AD (show (Tryz.prog.info? 33).map (·.size)=some b.length by rw [hb];kernel_rfl)
 have HIq:=AD (show (Tryz.prog.info? 33).map (·.size)=some q.length by rw [hq];kernel_rfl)
 have HIz:=AD (show (Tryz.prog.info? 33).map (·.size)=some BI.length by kernel_rfl)
 clear hb hq
 cases hk:Kc q
 ·have HQ:=AD hk
  clear hQ hk
  go_enter Tryz.func46,Tryz.ntmps46
  go_wp2_with (first
   | (refine wpList_box_iv rfl 33 _ rfl b rfl ?_;intro w1 hR1 hE1 hz1)
   | (refine wpList_box_iv rfl 33 _ rfl q rfl ?_;intro w2 hR2 hE2 hz2;replace hR1:=hR1.ext hE2;rw [hz1] at hR2 hz2;replace hE1:=hE1.trans hE2;clear hE2)
   | (refine wpList_alloc_iv rfl 33 rfl BI (fun w=>Tryz.zeroValue33 w) ?_;intro w3 hR3 hE3 hz3;replace hR1:=hR1.ext hE3;replace hR2:=hR2.ext hE3;rw [hz2] at hR3 hz3;replace hE1:=hE1.trans hE3;clear hE3)
   | (refine wpList_load_iv rfl 33 _ rfl (w.heap.size+1) rfl q _ hR2 Tryz.underlying33 rfl HIq.out ?_)
   | (go_at_call 38;refine (C5 _ q HLq.out).mono ?_;rintro e w' ⟨rfl,hE⟩;rw [HQ.out];replace hR3:=hR3.ext hE;replace hE1:=hE1.trans hE;clear hE)
   | (refine wpList_store_iv rfl 33 _ _ rfl (w.heap.size+1+1) rfl BI BI rfl hR3 HIz.out rfl ?_;replace hR3:=hR3.setRow BI;replace hE1:=hE1.setRow (g:=w.heap.size+1+1) (by omega) (iv BI)))
  refine bodyPost_ret (BL rfl _ _ (w.heap.size+1+1) BI _ rfl hR3 Tryz.underlying33 rfl HIz.out) rfl ?_
  exact ⟨rfl,hE1⟩
 rw [hk,Bool.true_and] at hQ
 have HQ:=AD hk
 have HB:=AD hQ
 clear hQ hk
 go_enter Tryz.func46,Tryz.ntmps46
 go_wp2_with (first
  | (refine wpList_box_iv rfl 33 _ rfl b rfl ?_;intro w1 hR1 hE1 hz1)
  | (refine wpList_box_iv rfl 33 _ rfl q rfl ?_;intro w2 hR2 hE2 hz2;replace hR1:=hR1.ext hE2;rw [hz1] at hR2 hz2;replace hE1:=hE1.trans hE2;clear hE2)
  | (refine wpList_alloc_iv rfl 33 rfl BI (fun w=>Tryz.zeroValue33 w) ?_;intro w3 hR3 hE3 hz3;replace hR1:=hR1.ext hE3;replace hR2:=hR2.ext hE3;rw [hz2] at hR3 hz3;replace hE1:=hE1.trans hE3;clear hE3)
  | (refine wpList_load_iv rfl 33 _ rfl (w.heap.size+1) rfl q _ hR2 Tryz.underlying33 rfl HIq.out ?_)
  | (refine wpList_load_iv rfl 33 _ rfl w.heap.size rfl b _ hR1 Tryz.underlying33 rfl HIb.out ?_)
  | (go_at_call 38;refine (C5 _ q HLq.out).mono ?_;rintro e w' ⟨rfl,hE⟩;rw [HQ.out];replace hR1:=hR1.ext hE;replace hR3:=hR3.ext hE;replace hE1:=hE1.trans hE;clear hE)
  | (go_at_call 62;refine (Ch _ b HLb.out (-most) most).mono ?_;rintro e w' ⟨rfl,hE⟩;rw [HB.out];replace hR3:=hR3.ext hE;replace hE1:=hE1.trans hE;clear hE)
  | (refine wpList_store_iv rfl 33 _ _ rfl (w.heap.size+1+1) rfl BI BI rfl hR3 HIz.out rfl ?_;replace hR3:=hR3.setRow BI;replace hE1:=hE1.setRow (g:=w.heap.size+1+1) (by omega) (iv BI)))
 refine bodyPost_ret (BL rfl _ _ (w.heap.size+1+1) BI _ rfl hR3 Tryz.underlying33 rfl HIz.out) rfl ?_
 exact ⟨rfl,hE1⟩
def dn(n d:Int):Int:=min (max (El n d) (-2047)) 2047
def Pp(n d:Int):Int:=min (max (n*d) (-40000)) 40000
def By(b q:List Int):List Int:=if Kc q&&BJ b (-40000) 40000 then Cu dn b q else BI
def EG(b q:List Int):Int:=if Kc q&&BJ b (-40000) 40000 then 0 else 1
def Ii(b q:List Int):List Int:=if Kc q&&BJ b (-2047) 2047 then Cu Pp b q else BI
def Nl(b q:List Int):Int:=if Kc q&&BJ b (-2047) 2047 then 0 else 1
theorem Cp(b q:List Int)(hb:b.length=64)(hq:q.length=64):(By b q).length=64:=by
 unfold By;split
 ·exact Fz _ _ _ hb hq
 rfl
theorem EX(b q:List Int)(hb:b.length=64)(hq:q.length=64):(Ii b q).length=64:=by
 unfold Ii;split
 ·exact Fz _ _ _ hb hq
 rfl
theorem ND(n d:Int)(w:World)(h0: -40000≤n)(h1:n≤40000)(h2:1≤d)(h3:d≤255):
 Calls Tryz.prog 47 #[.int .i64 n, .int .i64 d] w fun e w'=>e= .returned (.int .i64 (dn n d))∧w=w':=by
 go_enter Tryz.func47,Tryz.ntmps47
 go_wp2_with (first
  | (go_at_call 48;refine (Em _ _ _ (by omega) (by omega) (by omega) (by omega)).mono ?_;rintro e w' ⟨rfl,rfl⟩)
  | (go_at_call 42;refine (D8 _ _ _ (by omega) (by omega)).mono ?_;rintro e w' ⟨rfl,rfl⟩))
 go_ret
 exact ⟨rfl,rfl⟩
theorem KI(w:World)(b q:List Int)(hb:b.length=64)(hq:q.length=64):
 Calls Tryz.prog 46 #[.agg (iv b), .agg (iv q), .int .i64 40000, .func (.func 47) #[] #[]] w fun e w'=>e= .returned (.tuple #[.agg (iv (By b q)), .int .i64 (EG b q)])∧AP w w':=by
 cases h:Kc q&&BJ b (-40000) 40000
 ·rw [show By b q=BI by simp [By,h],show EG b q=1 by simp [EG,h]]
  exact GZ w b q hb hq 40000 (by omega) (by omega) _ h
 rw [show By b q=Cu dn b q by simp [By,h],show EG b q=0 by simp [EG,h]]
 rw [Bool.and_eq_true] at h
 exact IT w b q hb hq 40000 (by omega) (by omega) 47 dn Tryz.call47 ND h.1 h.2
theorem Lb(w:World)(b q:List Int)(hb:b.length=64)(hq:q.length=64):
 Calls Tryz.prog 27 #[.agg (iv b), .agg (iv q)] w fun e w'=>e= .returned (.tuple #[.agg (iv (By b q)), .int .i64 (EG b q)])∧AP w w':=by
 have HC:=AD (fun w=>KI w b q hb hq)
 have HIb:=AD (show (Tryz.prog.info? 33).map (·.size)=some b.length by rw [hb];kernel_rfl)
 have HIq:=AD (show (Tryz.prog.info? 33).map (·.size)=some q.length by rw [hq];kernel_rfl)
 have HIr:=AD (show (Tryz.prog.info? 33).map (·.size)=some (By b q).length by rw [Cp b q hb hq];kernel_rfl)
 have HL:=AD (show BI.length=(By b q).length by rw [Cp b q hb hq];rfl)
 clear hb hq
 go_enter Tryz.func27,Tryz.ntmps27
 go_wp2_with (first
  | (refine wpList_box_iv rfl 33 _ rfl b rfl ?_;intro w1 hR1 hE1 hz1)
  | (refine wpList_box_iv rfl 33 _ rfl q rfl ?_;intro w2 hR2 hE2 hz2;replace hR1:=hR1.ext hE2;rw [hz1] at hR2 hz2;replace hE1:=hE1.trans hE2;clear hE2)
  | (refine wpList_alloc_iv rfl 33 rfl BI (fun w=>Tryz.zeroValue33 w) ?_;intro w3 hR3 hE3 hz3;replace hR1:=hR1.ext hE3;replace hR2:=hR2.ext hE3;rw [hz2] at hR3 hz3;replace hE1:=hE1.trans hE3;clear hE3)
  | (refine wpList_load_iv rfl 33 _ rfl (w.heap.size+1) rfl q _ hR2 Tryz.underlying33 rfl HIq.out ?_)
  | (refine wpList_load_iv rfl 33 _ rfl w.heap.size rfl b _ hR1 Tryz.underlying33 rfl HIb.out ?_)
  | (go_at_call 46;refine (HC.out _).mono ?_;rintro e w' ⟨rfl,hE⟩;replace hR3:=hR3.ext hE;replace hE1:=hE1.trans hE;clear hE)
  | (refine wpList_store_iv rfl 33 _ _ rfl (w.heap.size+1+1) rfl (By b q) BI rfl hR3 HIr.out HL.out ?_;replace hR3:=hR3.setRow (By b q);replace hE1:=hE1.setRow (g:=w.heap.size+1+1) (by omega) (iv (By b q))))
 refine bodyPost_ret (BL rfl _ _ (w.heap.size+1+1) (By b q) _ rfl hR3 Tryz.underlying33 rfl HIr.out) rfl ?_
 exact ⟨rfl,hE1⟩
theorem PP(n d:Int)(w:World)(h0: -2047≤n)(h1:n≤2047)(h2:1≤d)(h3:d≤255):
 Calls Tryz.prog 49 #[.int .i64 n, .int .i64 d] w fun e w'=>e= .returned (.int .i64 (Pp n d))∧w=w':=by
 have ⟨p1,p2⟩:=EI n d 2047 255 ⟨h0,h1⟩ ⟨by omega,h3⟩
 simp only [Int.reduceMul,Int.reduceNeg] at p1 p2
 go_enter Tryz.func49,Tryz.ntmps49
 go_wp2_with (go_at_call 42;refine (D8 _ _ _ (by omega) (by omega)).mono ?_;rintro e w' ⟨rfl,rfl⟩)
 go_ret
 exact ⟨rfl,rfl⟩
theorem Nm(w:World)(b q:List Int)(hb:b.length=64)(hq:q.length=64):
 Calls Tryz.prog 46 #[.agg (iv b), .agg (iv q), .int .i64 2047, .func (.func 49) #[] #[]] w fun e w'=>e= .returned (.tuple #[.agg (iv (Ii b q)), .int .i64 (Nl b q)])∧AP w w':=by
 cases h:Kc q&&BJ b (-2047) 2047
 ·rw [show Ii b q=BI by simp [Ii,h],show Nl b q=1 by simp [Nl,h]]
  exact GZ w b q hb hq 2047 (by omega) (by omega) _ h
 rw [show Ii b q=Cu Pp b q by simp [Ii,h],show Nl b q=0 by simp [Nl,h]]
 rw [Bool.and_eq_true] at h
 exact IT w b q hb hq 2047 (by omega) (by omega) 49 Pp Tryz.call49 PP h.1 h.2
theorem OZ(w:World)(b q:List Int)(hb:b.length=64)(hq:q.length=64):
 Calls Tryz.prog 29 #[.agg (iv b), .agg (iv q)] w fun e w'=>e= .returned (.tuple #[.agg (iv (Ii b q)), .int .i64 (Nl b q)])∧AP w w':=by
 have HC:=AD (fun w=>Nm w b q hb hq)
 have HIb:=AD (show (Tryz.prog.info? 33).map (·.size)=some b.length by rw [hb];kernel_rfl)
 have HIq:=AD (show (Tryz.prog.info? 33).map (·.size)=some q.length by rw [hq];kernel_rfl)
 have HIr:=AD (show (Tryz.prog.info? 33).map (·.size)=some (Ii b q).length by rw [EX b q hb hq];kernel_rfl)
 have HL:=AD (show BI.length=(Ii b q).length by rw [EX b q hb hq];rfl)
 clear hb hq
 go_enter Tryz.func29,Tryz.ntmps29
 go_wp2_with (first
  | (refine wpList_box_iv rfl 33 _ rfl b rfl ?_;intro w1 hR1 hE1 hz1)
  | (refine wpList_box_iv rfl 33 _ rfl q rfl ?_;intro w2 hR2 hE2 hz2;replace hR1:=hR1.ext hE2;rw [hz1] at hR2 hz2;replace hE1:=hE1.trans hE2;clear hE2)
  | (refine wpList_alloc_iv rfl 33 rfl BI (fun w=>Tryz.zeroValue33 w) ?_;intro w3 hR3 hE3 hz3;replace hR1:=hR1.ext hE3;replace hR2:=hR2.ext hE3;rw [hz2] at hR3 hz3;replace hE1:=hE1.trans hE3;clear hE3)
  | (refine wpList_load_iv rfl 33 _ rfl (w.heap.size+1) rfl q _ hR2 Tryz.underlying33 rfl HIq.out ?_)
  | (refine wpList_load_iv rfl 33 _ rfl w.heap.size rfl b _ hR1 Tryz.underlying33 rfl HIb.out ?_)
  | (go_at_call 46;refine (HC.out _).mono ?_;rintro e w' ⟨rfl,hE⟩;replace hR3:=hR3.ext hE;replace hE1:=hE1.trans hE;clear hE)
  | (refine wpList_store_iv rfl 33 _ _ rfl (w.heap.size+1+1) rfl (Ii b q) BI rfl hR3 HIr.out HL.out ?_;replace hR3:=hR3.setRow (Ii b q);replace hE1:=hE1.setRow (g:=w.heap.size+1+1) (by omega) (iv (Ii b q))))
 refine bodyPost_ret (BL rfl _ _ (w.heap.size+1+1) (Ii b q) _ rfl hR3 Tryz.underlying33 rfl HIr.out) rfl ?_
 exact ⟨rfl,hE1⟩
end Go.Proofs.YtngojkompmcceaaGreatDoor
/-
  DERIVED:THE SHELF's CONTRACTS AT THIS DUMP,IN PLAIN WORDS (tools/lay-plain.mjs out of 'TryzShelf.lean',which tools/lay-shelf.mjs wrote):THE SAME DECLARATIONS UNDER THE SAME NAMES:'import', 'namespace', 'open', 'def', 'theorem' AND NOTHING ELSE:no command of the shelf's:FOR A HAND-IN. Each laying:the table of numbers ('.._ren') and one theorem,a field a fact of the dump's own or the kernel's comparison;each contract:ONE APPLICATION.
-/
namespace Go.Proofs
open Go.Shelf
def Tryz.lays156_ren:Go.Shelf.Ren:=⟨fun|156=>63|165=>90|166=>91|169=>92|240=>108|241=>109|276=>117|277=>118|n=>n,fun|31=>22|9=>9|3=>3|4=>4|0=>0|20=>20|72=>134|76=>62|70=>132|37=>95|75=>61|127=>153|164=>166|5=>5|80=>136|n=>n,fun|n=>n⟩
theorem Tryz.lays156:Go.Proofs.Lays.n156 Tryz.prog Tryz.lays156_ren:={
  mixed:=by kernel_rfl
  f156:=Tryz.func63.trans (congrArg some (by kernel_rfl))
  f165:=Tryz.func90.trans (congrArg some (by kernel_rfl))
  f166:=Tryz.func91.trans (congrArg some (by kernel_rfl))
  f169:=Tryz.func92.trans (congrArg some (by kernel_rfl))
  f240:=Tryz.func108.trans (congrArg some (by kernel_rfl))
  f241:=Tryz.func109.trans (congrArg some (by kernel_rfl))
  f276:=Tryz.func117.trans (congrArg some (by kernel_rfl))
  f277:=Tryz.func118.trans (congrArg some (by kernel_rfl))
  t0:=Tryz.underlying0
  a0:=Tryz.isAgg0
  z0:=Tryz.sizeOf0
  v0:=Tryz.zeroValue0
  t3:=Tryz.underlying3
  a3:=Tryz.isAgg3
  z3:=Tryz.sizeOf3
  v3:=Tryz.zeroValue3
  t4:=Tryz.underlying4
  a4:=Tryz.isAgg4
  z4:=Tryz.sizeOf4
  v4:=Tryz.zeroValue4
  t9:=Tryz.underlying9
  a9:=Tryz.isAgg9
  z9:=Tryz.sizeOf9
  v9:=Tryz.zeroValue9
  t20:=Tryz.underlying20
  a20:=Tryz.isAgg20
  z20:=Tryz.sizeOf20
  v20:=Tryz.zeroValue20
  t31:=Tryz.underlying22
  a31:=Tryz.isAgg22
  z31:=Tryz.sizeOf22
  v31:=Tryz.zeroValue22
  t37:=Tryz.underlying95
  a37:=Tryz.isAgg95
  z37:=Tryz.sizeOf95
  v37:=Tryz.zeroValue95
  t70:=Tryz.underlying132
  a70:=Tryz.isAgg132
  z70:=Tryz.sizeOf132
  v70:=Tryz.zeroValue132
  t72:=Tryz.underlying134
  a72:=Tryz.isAgg134
  z72:=Tryz.sizeOf134
  v72:=Tryz.zeroValue134
  t75:=Tryz.underlying61
  a75:=Tryz.isAgg61
  z75:=Tryz.sizeOf61
  v75:=Tryz.zeroValue61
  t76:=Tryz.underlying62
  a76:=Tryz.isAgg62
  z76:=Tryz.sizeOf62
  v76:=Tryz.zeroValue62
  t127:=Tryz.underlying153
  a127:=Tryz.isAgg153
  z127:=Tryz.sizeOf153
  v127:=Tryz.zeroValue153
  t164:=Tryz.underlying166
  a164:=Tryz.isAgg166
  z164:=Tryz.sizeOf166
  v164:=Tryz.zeroValue166}
theorem Tryz.Builder_Extra_156:Builder.Extra Tryz.prog Tryz.lays156_ren:={
  sizeBuilder:=by kernel_rfl
  liesBuilder:=by kernel_rfl
  t5:=Tryz.underlying5
  a5:=Tryz.isAgg5
  z5:=Tryz.sizeOf5
  v5:=Tryz.zeroValue5
  infoByte:=by kernel_rfl
  cellsByte:=by kernel_rfl
  sizeByte:=by kernel_rfl
  neB5:=by decide}
open Go.RowKit in
/-- strings.Join: "Join concatenates the elements of its first argument to create a single string. The separator string sep is placed between elements in the resulting string.": HOWEVER MANY ELEMENTS. Below the heap's end the world is as it was. (LAID: no walk: one application.) -/
theorem Tryz.strings_Join(bk o c:Nat)(xs:List ByteArray)(sep:ByteArray)(w:World)(hcells:∀(j:Nat) x,xs[j]? =some x→w.cell? ⟨bk,o+j,none⟩=some (.string x))(hbk:bk<w.heap.size)(hN:xs.length≤140737488355328)(hcap:xs.length≤c)(hlen:(Lib.join (xs.map (·.data.toList)) sep.data.toList).length≤140737488355328):
    Calls Tryz.prog 63 #[.slice (some ⟨bk,o,none⟩) xs.length c, .string sep] w fun e w'=>e= .returned (.string ⟨(Lib.join (xs.map (·.data.toList)) sep.data.toList).toArray⟩)∧Below w.heap.size w w':=Any.strings_Join Tryz.lays156 Tryz.Builder_Extra_156 bk o c xs sep w hcells hbk hN hcap hlen
def Tryz.lays125_ren:Go.Shelf.Ren:=⟨fun|125=>71|128=>96|129=>85|n=>n,fun|46=>106|3=>3|51=>130|53=>92|4=>4|5=>5|9=>9|n=>n,fun|n=>n⟩
theorem Tryz.lays125:Go.Proofs.Lays.n125 Tryz.prog Tryz.lays125_ren:={
  mixed:=by kernel_rfl
  f125:=Tryz.func71.trans (congrArg some (by kernel_rfl))
  f128:=Tryz.func96.trans (congrArg some (by kernel_rfl))
  f129:=Tryz.func85.trans (congrArg some (by kernel_rfl))
  t3:=Tryz.underlying3
  a3:=Tryz.isAgg3
  z3:=Tryz.sizeOf3
  v3:=Tryz.zeroValue3
  t4:=Tryz.underlying4
  a4:=Tryz.isAgg4
  z4:=Tryz.sizeOf4
  v4:=Tryz.zeroValue4
  t5:=Tryz.underlying5
  a5:=Tryz.isAgg5
  z5:=Tryz.sizeOf5
  v5:=Tryz.zeroValue5
  t9:=Tryz.underlying9
  a9:=Tryz.isAgg9
  z9:=Tryz.sizeOf9
  v9:=Tryz.zeroValue9
  t46:=Tryz.underlying106
  a46:=Tryz.isAgg106
  z46:=Tryz.sizeOf106
  v46:=Tryz.zeroValue106
  t51:=Tryz.underlying130
  a51:=Tryz.isAgg130
  z51:=Tryz.sizeOf130
  v51:=Tryz.zeroValue130
  t53:=Tryz.underlying92
  a53:=Tryz.isAgg92
  z53:=Tryz.sizeOf92
  v53:=Tryz.zeroValue92}
/-- bits.Len: "Len returns the minimum number of bits required to represent x; the result is 0 for x == 0.": IT RETURNS 'Lib.bitLen x'; the world is as it was. (A uint has 64 bits in the model.) ITS CALLEE bits.Len64 IS MET BY ITS OWN CONTRACT OFF THE SHELF (lay that first). (LAID: no walk: one application.) -/
theorem Tryz.bits_Len(x:Int)(w:World)(h0:0≤x)(h1:x≤18446744073709551615):
    Calls Tryz.prog 71 #[.int .u64 x] w fun e w'=>e= .returned (.int .i64 (Lib.bitLen x.toNat))∧w'=w:=Any.bits_Len Tryz.lays125 x w h0 h1
def Tryz.lays172_ren:Go.Shelf.Ren:=⟨fun|172=>35|244=>55|245=>56|247=>78|279=>79|280=>80|281=>81|282=>82|287=>103|316=>104|171=>11|205=>105|321=>115|322=>116|243=>16|246=>37|283=>58|284=>59|285=>60|286=>61|129=>85|317=>84|318=>86|319=>87|320=>88|337=>106|338=>107|n=>n,fun|9=>9|3=>3|75=>61|76=>62|4=>4|5=>5|167=>121|37=>95|0=>0|85=>122|2=>2|168=>124|53=>92|175=>147|46=>106|210=>151|127=>153|145=>163|143=>161|21=>21|171=>91|173=>96|212=>129|51=>130|20=>20|213=>131|232=>164|233=>165|80=>136|n=>n,fun|15=>1|16=>2|17=>0|18=>3|19=>4|n=>n⟩
def Tryz.laysM246_ren:Go.Shelf.Ren:=⟨fun|246=>37|283=>58|284=>59|285=>60|286=>61|129=>85|317=>84|318=>86|319=>87|320=>88|337=>106|338=>107|n=>n,fun|2=>2|3=>3|9=>9|4=>4|171=>91|0=>0|53=>92|37=>95|5=>5|173=>96|212=>129|51=>130|20=>20|213=>131|46=>106|232=>164|233=>165|n=>n,fun|17=>0|18=>3|19=>4|n=>n⟩
def Tryz.laysM243_ren:Go.Shelf.Ren:=⟨fun|243=>16|246=>37|283=>58|284=>59|285=>60|286=>61|129=>85|317=>84|318=>86|319=>87|320=>88|337=>106|338=>107|n=>n,fun|3=>3|9=>9|2=>2|4=>4|171=>91|0=>0|53=>92|37=>95|5=>5|173=>96|212=>129|51=>130|20=>20|213=>131|46=>106|232=>164|233=>165|n=>n,fun|17=>0|18=>3|19=>4|n=>n⟩
def Tryz.laysM171_ren:Go.Shelf.Ren:=⟨fun|171=>11|243=>16|246=>37|283=>58|284=>59|285=>60|286=>61|129=>85|317=>84|318=>86|319=>87|320=>88|337=>106|338=>107|n=>n,fun|3=>3|9=>9|2=>2|4=>4|171=>91|0=>0|53=>92|37=>95|5=>5|173=>96|212=>129|51=>130|20=>20|213=>131|46=>106|232=>164|233=>165|n=>n,fun|17=>0|18=>3|19=>4|n=>n⟩
theorem Tryz.laysM171:Go.Proofs.LaysM.n171 Tryz.prog Tryz.laysM171_ren:={
  mixed:=by kernel_rfl
  f129:=Tryz.func85.trans (congrArg some (by kernel_rfl))
  f171:=Tryz.func11.trans (congrArg some (by kernel_rfl))
  f243:=Tryz.func16.trans (congrArg some (by kernel_rfl))
  f246:=Tryz.func37.trans (congrArg some (by kernel_rfl))
  f283:=Tryz.func58.trans (congrArg some (by kernel_rfl))
  f284:=Tryz.func59.trans (congrArg some (by kernel_rfl))
  f285:=Tryz.func60.trans (congrArg some (by kernel_rfl))
  f286:=Tryz.func61.trans (congrArg some (by kernel_rfl))
  f317:=Tryz.func84.trans (congrArg some (by kernel_rfl))
  f318:=Tryz.func86.trans (congrArg some (by kernel_rfl))
  f319:=Tryz.func87.trans (congrArg some (by kernel_rfl))
  f320:=Tryz.func88.trans (congrArg some (by kernel_rfl))
  f337:=Tryz.func106.trans (congrArg some (by kernel_rfl))
  f338:=Tryz.func107.trans (congrArg some (by kernel_rfl))
  t0:=Tryz.underlying0
  a0:=Tryz.isAgg0
  z0:=Tryz.sizeOf0
  v0:=Tryz.zeroValue0
  t2:=Tryz.underlying2
  a2:=Tryz.isAgg2
  z2:=Tryz.sizeOf2
  v2:=Tryz.zeroValue2
  t3:=Tryz.underlying3
  a3:=Tryz.isAgg3
  z3:=Tryz.sizeOf3
  v3:=Tryz.zeroValue3
  t4:=Tryz.underlying4
  a4:=Tryz.isAgg4
  z4:=Tryz.sizeOf4
  v4:=Tryz.zeroValue4
  t5:=Tryz.underlying5
  a5:=Tryz.isAgg5
  z5:=Tryz.sizeOf5
  v5:=Tryz.zeroValue5
  t9:=Tryz.underlying9
  a9:=Tryz.isAgg9
  z9:=Tryz.sizeOf9
  v9:=Tryz.zeroValue9
  t20:=Tryz.underlying20
  a20:=Tryz.isAgg20
  z20:=Tryz.sizeOf20
  v20:=Tryz.zeroValue20
  t37:=Tryz.underlying95
  a37:=Tryz.isAgg95
  z37:=Tryz.sizeOf95
  v37:=Tryz.zeroValue95
  t46:=Tryz.underlying106
  a46:=Tryz.isAgg106
  z46:=Tryz.sizeOf106
  v46:=Tryz.zeroValue106
  t51:=Tryz.underlying130
  a51:=Tryz.isAgg130
  z51:=Tryz.sizeOf130
  v51:=Tryz.zeroValue130
  t53:=Tryz.underlying92
  a53:=Tryz.isAgg92
  z53:=Tryz.sizeOf92
  v53:=Tryz.zeroValue92
  t171:=Tryz.underlying91
  a171:=Tryz.isAgg91
  z171:=Tryz.sizeOf91
  v171:=Tryz.zeroValue91
  t173:=Tryz.underlying96
  a173:=Tryz.isAgg96
  z173:=Tryz.sizeOf96
  v173:=Tryz.zeroValue96
  t212:=Tryz.underlying129
  a212:=Tryz.isAgg129
  z212:=Tryz.sizeOf129
  v212:=Tryz.zeroValue129
  t213:=Tryz.underlying131
  a213:=Tryz.isAgg131
  z213:=Tryz.sizeOf131
  t232:=Tryz.underlying164
  a232:=Tryz.isAgg164
  z232:=Tryz.sizeOf164
  v232:=Tryz.zeroValue164
  t233:=Tryz.underlying165
  a233:=Tryz.isAgg165
  z233:=Tryz.sizeOf165
  v233:=Tryz.zeroValue165
  g17:=by kernel_rfl
  g18:=by kernel_rfl
  g19:=by kernel_rfl
  i0:=by kernel_rfl
  i2:=by kernel_rfl
  i3:=by kernel_rfl
  i4:=by kernel_rfl
  i5:=by kernel_rfl
  i9:=by kernel_rfl
  i20:=by kernel_rfl
  i37:=by kernel_rfl
  i46:=by kernel_rfl
  i51:=by kernel_rfl
  i53:=by kernel_rfl
  i171:=by kernel_rfl
  i173:=by kernel_rfl
  i212:=by kernel_rfl
  i232:=by kernel_rfl
  i233:=by kernel_rfl
  m17:=by kernel_rfl
  m18:=by kernel_rfl
  m19:=by kernel_rfl}
open Go.RowKit Go.Sort Go.Lib in
/-- strconv.Itoa: "Itoa is equivalent to FormatInt(int64(i), 10).": i's DECIMAL NUMERAL ('Lib.itoa': a '-' where i is negative, then the digits), FOR EVERY int. The world behind the call: the world before it, new blocks behind the heap (the library's 'var a [24]byte'), draws. (LAID: no walk: one application.) -/
theorem Tryz.strconv_Itoa(n:Int)(h0: -9223372036854775808≤n)(h1:n≤9223372036854775807)(w:World)(htab:Lib.TabIs Tryz.prog w "internal/strconv.uint64pow10" .u64 Lib.pow10Tab):
    Calls Tryz.prog 11 #[.int .i64 n] w fun e w'=>e= .returned (.string ⟨(Lib.itoa n).toArray⟩)∧∃k os,w'=grow (w.drewN k) os:=Any.strconv_Itoa Tryz.laysM171 n h0 h1 w htab
def Tryz.laysC172_ren:Go.Shelf.Ren:=⟨fun|172=>35|244=>55|245=>56|247=>78|279=>79|280=>80|281=>81|282=>82|287=>103|316=>104|171=>11|205=>105|321=>115|322=>116|243=>16|246=>37|283=>58|284=>59|285=>60|286=>61|129=>85|317=>84|318=>86|319=>87|320=>88|337=>106|338=>107|n=>n,fun|9=>9|3=>3|75=>61|76=>62|4=>4|5=>5|167=>121|37=>95|0=>0|85=>122|2=>2|168=>124|53=>92|175=>147|46=>106|210=>151|127=>153|145=>163|143=>161|21=>21|171=>91|173=>96|212=>129|51=>130|20=>20|213=>131|232=>164|233=>165|80=>136|n=>n,fun|15=>1|16=>2|17=>0|18=>3|19=>4|n=>n⟩
theorem Tryz.laysC172:Go.Proofs.LaysC.n172 Tryz.prog Tryz.laysC172_ren:={
  mixed:=by kernel_rfl
  f129:=Tryz.func85.trans (congrArg some (by kernel_rfl))
  f171:=Tryz.func11.trans (congrArg some (by kernel_rfl))
  f172:=Tryz.func35.trans (congrArg some (by kernel_rfl))
  f205:=Tryz.func105.trans (congrArg some (by kernel_rfl))
  f243:=Tryz.func16.trans (congrArg some (by kernel_rfl))
  f244:=Tryz.func55.trans (congrArg some (by kernel_rfl))
  f245:=Tryz.func56.trans (congrArg some (by kernel_rfl))
  f246:=Tryz.func37.trans (congrArg some (by kernel_rfl))
  f247:=Tryz.func78.trans (congrArg some (by kernel_rfl))
  f279:=Tryz.func79.trans (congrArg some (by kernel_rfl))
  f280:=Tryz.func80.trans (congrArg some (by kernel_rfl))
  f281:=Tryz.func81.trans (congrArg some (by kernel_rfl))
  f282:=Tryz.func82.trans (congrArg some (by kernel_rfl))
  f283:=Tryz.func58.trans (congrArg some (by kernel_rfl))
  f284:=Tryz.func59.trans (congrArg some (by kernel_rfl))
  f285:=Tryz.func60.trans (congrArg some (by kernel_rfl))
  f286:=Tryz.func61.trans (congrArg some (by kernel_rfl))
  f287:=Tryz.func103.trans (congrArg some (by kernel_rfl))
  f316:=Tryz.func104.trans (congrArg some (by kernel_rfl))
  f317:=Tryz.func84.trans (congrArg some (by kernel_rfl))
  f318:=Tryz.func86.trans (congrArg some (by kernel_rfl))
  f319:=Tryz.func87.trans (congrArg some (by kernel_rfl))
  f320:=Tryz.func88.trans (congrArg some (by kernel_rfl))
  f321:=Tryz.func115.trans (congrArg some (by kernel_rfl))
  f322:=Tryz.func116.trans (congrArg some (by kernel_rfl))
  f337:=Tryz.func106.trans (congrArg some (by kernel_rfl))
  f338:=Tryz.func107.trans (congrArg some (by kernel_rfl))
  t0:=Tryz.underlying0
  a0:=Tryz.isAgg0
  z0:=Tryz.sizeOf0
  v0:=Tryz.zeroValue0
  t2:=Tryz.underlying2
  a2:=Tryz.isAgg2
  z2:=Tryz.sizeOf2
  v2:=Tryz.zeroValue2
  t3:=Tryz.underlying3
  a3:=Tryz.isAgg3
  z3:=Tryz.sizeOf3
  v3:=Tryz.zeroValue3
  t4:=Tryz.underlying4
  a4:=Tryz.isAgg4
  z4:=Tryz.sizeOf4
  v4:=Tryz.zeroValue4
  t5:=Tryz.underlying5
  a5:=Tryz.isAgg5
  z5:=Tryz.sizeOf5
  v5:=Tryz.zeroValue5
  t9:=Tryz.underlying9
  a9:=Tryz.isAgg9
  z9:=Tryz.sizeOf9
  v9:=Tryz.zeroValue9
  t20:=Tryz.underlying20
  a20:=Tryz.isAgg20
  z20:=Tryz.sizeOf20
  v20:=Tryz.zeroValue20
  t21:=Tryz.underlying21
  a21:=Tryz.isAgg21
  z21:=Tryz.sizeOf21
  v21:=Tryz.zeroValue21
  t37:=Tryz.underlying95
  a37:=Tryz.isAgg95
  z37:=Tryz.sizeOf95
  v37:=Tryz.zeroValue95
  t46:=Tryz.underlying106
  a46:=Tryz.isAgg106
  z46:=Tryz.sizeOf106
  v46:=Tryz.zeroValue106
  t51:=Tryz.underlying130
  a51:=Tryz.isAgg130
  z51:=Tryz.sizeOf130
  v51:=Tryz.zeroValue130
  t53:=Tryz.underlying92
  a53:=Tryz.isAgg92
  z53:=Tryz.sizeOf92
  v53:=Tryz.zeroValue92
  t75:=Tryz.underlying61
  a75:=Tryz.isAgg61
  z75:=Tryz.sizeOf61
  v75:=Tryz.zeroValue61
  t76:=Tryz.underlying62
  a76:=Tryz.isAgg62
  z76:=Tryz.sizeOf62
  v76:=Tryz.zeroValue62
  t85:=Tryz.underlying122
  a85:=Tryz.isAgg122
  z85:=Tryz.sizeOf122
  v85:=Tryz.zeroValue122
  t127:=Tryz.underlying153
  a127:=Tryz.isAgg153
  z127:=Tryz.sizeOf153
  v127:=Tryz.zeroValue153
  t143:=Tryz.underlying161
  a143:=Tryz.isAgg161
  z143:=Tryz.sizeOf161
  v143:=Tryz.zeroValue161
  t145:=Tryz.underlying163
  a145:=Tryz.isAgg163
  z145:=Tryz.sizeOf163
  v145:=Tryz.zeroValue163
  t167:=Tryz.underlying121
  a167:=Tryz.isAgg121
  z167:=Tryz.sizeOf121
  v167:=Tryz.zeroValue121
  t168:=Tryz.underlying124
  a168:=Tryz.isAgg124
  z168:=Tryz.sizeOf124
  v168:=Tryz.zeroValue124
  t171:=Tryz.underlying91
  a171:=Tryz.isAgg91
  z171:=Tryz.sizeOf91
  v171:=Tryz.zeroValue91
  t173:=Tryz.underlying96
  a173:=Tryz.isAgg96
  z173:=Tryz.sizeOf96
  v173:=Tryz.zeroValue96
  t175:=Tryz.underlying147
  a175:=Tryz.isAgg147
  z175:=Tryz.sizeOf147
  v175:=Tryz.zeroValue147
  t210:=Tryz.underlying151
  a210:=Tryz.isAgg151
  z210:=Tryz.sizeOf151
  v210:=Tryz.zeroValue151
  t212:=Tryz.underlying129
  a212:=Tryz.isAgg129
  z212:=Tryz.sizeOf129
  v212:=Tryz.zeroValue129
  t213:=Tryz.underlying131
  a213:=Tryz.isAgg131
  z213:=Tryz.sizeOf131
  t232:=Tryz.underlying164
  a232:=Tryz.isAgg164
  z232:=Tryz.sizeOf164
  v232:=Tryz.zeroValue164
  t233:=Tryz.underlying165
  a233:=Tryz.isAgg165
  z233:=Tryz.sizeOf165
  v233:=Tryz.zeroValue165
  g15:=by kernel_rfl
  g16:=by kernel_rfl
  g17:=by kernel_rfl
  g18:=by kernel_rfl
  g19:=by kernel_rfl
  t80:=Tryz.underlying136
  a80:=Tryz.isAgg136
  z80:=Tryz.sizeOf136
  v80:=Tryz.zeroValue136
  i0:=by kernel_rfl
  i2:=by kernel_rfl
  i3:=by kernel_rfl
  i4:=by kernel_rfl
  i5:=by kernel_rfl
  i9:=by kernel_rfl
  i20:=by kernel_rfl
  i21:=by kernel_rfl
  i37:=by kernel_rfl
  i46:=by kernel_rfl
  i51:=by kernel_rfl
  i53:=by kernel_rfl
  i75:=by kernel_rfl
  i76:=by kernel_rfl
  i80:=by kernel_rfl
  i85:=by kernel_rfl
  i127:=by kernel_rfl
  i143:=by kernel_rfl
  i145:=by kernel_rfl
  i167:=by kernel_rfl
  i168:=by kernel_rfl
  i171:=by kernel_rfl
  i173:=by kernel_rfl
  i175:=by kernel_rfl
  i210:=by kernel_rfl
  i212:=by kernel_rfl
  i232:=by kernel_rfl
  i233:=by kernel_rfl
  m15:=by kernel_rfl
  m16:=by kernel_rfl
  m17:=by kernel_rfl
  m18:=by kernel_rfl
  m19:=by kernel_rfl
  c0:=by kernel_rfl
  c2:=by kernel_rfl
  c3:=by kernel_rfl
  c4:=by kernel_rfl
  c5:=by kernel_rfl
  c9:=by kernel_rfl
  c20:=by kernel_rfl
  c21:=by kernel_rfl
  c37:=by kernel_rfl
  c46:=by kernel_rfl
  c51:=by kernel_rfl
  c53:=by kernel_rfl
  c75:=by kernel_rfl
  c76:=by kernel_rfl
  c80:=by kernel_rfl
  c85:=by kernel_rfl
  c127:=by kernel_rfl
  c143:=by kernel_rfl
  c145:=by kernel_rfl
  c167:=by kernel_rfl
  c168:=by kernel_rfl
  c171:=by kernel_rfl
  c173:=by kernel_rfl
  c175:=by kernel_rfl
  c210:=by kernel_rfl
  c212:=by kernel_rfl
  c213:=by kernel_rfl
  c232:=by kernel_rfl
  c233:=by kernel_rfl}
open Go.RowKit in
/-- strconv.Atoi, AT EVERY STRING THAT SPELLS AN int ('Lib.atoiAll .. = .ok v'; of whatever length: leading zeros count): v, AND NO ERROR. The world: as it was, or with the one new row that '[]byte(..)' lays. (LAID: no walk: one application.) -/
theorem Tryz.strconv_Atoi_ok(s:ByteArray)(hmax:s.size≤9223372036854775806)(v:Int)(h:Lib.atoiAll s.data.toList= .ok v)(w:World):
    Calls Tryz.prog 35 #[.string s] w fun e w'=>e= .returned (.tuple #[.int .i64 v, .nilIface])∧(w'=w∨∃t,w'=Lib.bytesWorld w 5 t):=Any.strconv_Atoi_ok Tryz.laysC172 s hmax v h w
open Go.RowKit in
/-- strconv.Atoi, AT EVERY STRING THAT IS NO DECIMAL NUMERAL ('.syntax'): 0, AND AN ERROR THAT IS NOT nil: a *NumError in a new block N: {Func: "Atoi", Num: s's bytes, Err: what the variable ErrSyntax holds}. Of what was there nothing has turned. (LAID: no walk: one application.) -/
theorem Tryz.strconv_Atoi_syntax(s:ByteArray)(hlim:s.size≤281474976710656)(h:Lib.atoiAll s.data.toList= .«syntax»)(ev:Value)(w:World)(hv:w.cell? ⟨1,0,none⟩=some ev)(hev:ev= .nilIface∨∃te pe,ev= .iface te pe):
    Calls Tryz.prog 35 #[.string s] w fun e w'=>∃N,e= .returned (.tuple #[.int .i64 (0), .iface 124 (.pointer (some ⟨N,0,none⟩))])∧w.heap.size≤N∧w'.heap[N]? =some (.cells #[.string ⟨#[65,116,111,105]⟩, .string s,ev] 151 (0,0))∧Below w.heap.size w w':=Any.strconv_Atoi_syntax Tryz.laysC172 s hlim h ev w hv hev
open Go.RowKit in
/-- strconv.Atoi, AT EVERY NUMERAL THAT NO int HOLDS ('.range'): THE GREATEST OR THE LEAST int, BY THE SIGN ('Lib.atoiSat'), AND AN ERROR THAT IS NOT nil: a *NumError in a new block N: {Func: "Atoi", Num: s's bytes, Err: what the variable ErrRange holds}. Of what was there nothing has turned. (LAID: no walk: one application.) -/
theorem Tryz.strconv_Atoi_range(s:ByteArray)(hlim:s.size≤281474976710656)(h:Lib.atoiAll s.data.toList= .range)(ev:Value)(w:World)(hv:w.cell? ⟨2,0,none⟩=some ev)(hev:ev= .nilIface∨∃te pe,ev= .iface te pe):
    Calls Tryz.prog 35 #[.string s] w fun e w'=>∃N,e= .returned (.tuple #[.int .i64 (Lib.atoiSat s.data.toList), .iface 124 (.pointer (some ⟨N,0,none⟩))])∧w.heap.size≤N∧w'.heap[N]? =some (.cells #[.string ⟨#[65,116,111,105]⟩, .string s,ev] 151 (0,0))∧Below w.heap.size w w':=Any.strconv_Atoi_range Tryz.laysC172 s hlim h ev w hv hev
def Tryz.lays206_ren:Go.Shelf.Ren:=⟨fun|206=>83|n=>n,fun|9=>9|4=>4|3=>3|n=>n,fun|n=>n⟩
def Tryz.lays101_ren:Go.Shelf.Ren:=⟨fun|101=>36|208=>57|206=>83|n=>n,fun|9=>9|4=>4|3=>3|n=>n,fun|n=>n⟩
theorem Tryz.lays101:Go.Proofs.Lays.n101 Tryz.prog Tryz.lays101_ren:={
  mixed:=by kernel_rfl
  f101:=Tryz.func36.trans (congrArg some (by kernel_rfl))
  f206:=Tryz.func83.trans (congrArg some (by kernel_rfl))
  f208:=Tryz.func57.trans (congrArg some (by kernel_rfl))
  t3:=Tryz.underlying3
  a3:=Tryz.isAgg3
  z3:=Tryz.sizeOf3
  v3:=Tryz.zeroValue3
  t4:=Tryz.underlying4
  a4:=Tryz.isAgg4
  z4:=Tryz.sizeOf4
  v4:=Tryz.zeroValue4
  t9:=Tryz.underlying9
  a9:=Tryz.isAgg9
  z9:=Tryz.sizeOf9
  v9:=Tryz.zeroValue9}
open Go.RowKit Go.Lib in
/-- strings.TrimPrefix: "TrimPrefix returns s without the provided leading prefix string. If s doesn't start with prefix, s is returned unchanged.": IT RETURNS 'Lib.trimPrefix s prefix'; the world is as it was. (LAID: no walk: one application.) -/
theorem Tryz.strings_TrimPrefix(s p:ByteArray)(w:World):
    Calls Tryz.prog 36 #[.string s, .string p] w fun e w'=>e= .returned (.string ⟨(Lib.trimPrefix s.data.toList p.data.toList).toArray⟩)∧w'=w:=Any.strings_TrimPrefix Tryz.lays101 s p w
def Tryz.lays229_ren:Go.Shelf.Ren:=⟨fun|229=>12|n=>n,fun|9=>9|40=>39|31=>22|152=>49|3=>3|0=>0|4=>4|21=>21|154=>51|n=>n,fun|n=>n⟩
theorem Tryz.lays229:Go.Proofs.Lays.n229 Tryz.prog Tryz.lays229_ren:={
  mixed:=by kernel_rfl
  f229:=Tryz.func12.trans (congrArg some (by kernel_rfl))
  t0:=Tryz.underlying0
  a0:=Tryz.isAgg0
  z0:=Tryz.sizeOf0
  v0:=Tryz.zeroValue0
  t3:=Tryz.underlying3
  a3:=Tryz.isAgg3
  z3:=Tryz.sizeOf3
  v3:=Tryz.zeroValue3
  t4:=Tryz.underlying4
  a4:=Tryz.isAgg4
  z4:=Tryz.sizeOf4
  v4:=Tryz.zeroValue4
  t9:=Tryz.underlying9
  a9:=Tryz.isAgg9
  z9:=Tryz.sizeOf9
  v9:=Tryz.zeroValue9
  t21:=Tryz.underlying21
  a21:=Tryz.isAgg21
  z21:=Tryz.sizeOf21
  v21:=Tryz.zeroValue21
  t31:=Tryz.underlying22
  a31:=Tryz.isAgg22
  z31:=Tryz.sizeOf22
  v31:=Tryz.zeroValue22
  t40:=Tryz.underlying39
  a40:=Tryz.isAgg39
  z40:=Tryz.sizeOf39
  v40:=Tryz.zeroValue39
  t152:=Tryz.underlying49
  a152:=Tryz.isAgg49
  z152:=Tryz.sizeOf49
  v152:=Tryz.zeroValue49
  t154:=Tryz.underlying51
  a154:=Tryz.isAgg51
  z154:=Tryz.sizeOf51
  v154:=Tryz.zeroValue51}
open Go.RowKit Go.Lib in
/-- .. over a hand of the authors' house's premise as it stands. (LAID: no walk: one application.) -/
theorem Tryz.strings_FieldsFunc(g:Nat)(lb:Array Value)(eg:∀args w,(callFunc g args).run Tryz.prog w= .ok (.enter g args) w)(p:Nat→Bool)(s:ByteArray)(w:World)(hs:s.size≤4294967296)(hp:PredAt Tryz.prog g lb encR p w):
    Calls Tryz.prog 12 #[.string s, .func (.func g) #[] lb] w fun e w'=>∃A,e= .returned (.slice (some ⟨A,0,none⟩) (Lib.goFieldsP p s).length (Lib.goFieldsP p s).length)∧w.heap.size≤A∧
      w'.ownsRow w.heap.size 9 1 (.slice (some ⟨A,0,none⟩) (Lib.goFieldsP p s).length (Lib.goFieldsP p s).length) (Lib.goFieldsP p s).length ((Lib.goFieldsP p s).map Value.string)∧Below w.heap.size w w':=Any.strings_FieldsFunc Tryz.lays229 g lb eg p s w hs hp (by kernel_rfl) (by kernel_rfl)
end Go.Proofs
/- And, or, exclusive or of ints that are not negative. -/
namespace Go
open Go.RowKit
theorem toNat_i64(a:Nat)(ha:a<9223372036854775808):(BitVec.ofInt 64 (a:Int)).toNat=a:=by
  rw [BitVec.ofInt_natCast,BitVec.toNat_ofNat];exact Nat.mod_eq_of_lt (by omega)
theorem wrap_i64_nat(x:Nat)(h:x<9223372036854775808):IntKind.i64.wrap (x:Int)=(x:Int):=by
  simp [IntKind.wrap,IntKind.signed,IntKind.bits];omega
theorem bits_or_i64_nat(a b:Nat)(ha:a<9223372036854775808)(hb:b<9223372036854775808):bits .or .i64 (a:Int) (b:Int)=((a|||b:Nat):Int):=by
  show IntKind.i64.wrap ((BitVec.ofInt 64 (a:Int)|||BitVec.ofInt 64 (b:Int)).toNat:Int)=_
  rw [BitVec.toNat_or,toNat_i64 a ha,toNat_i64 b hb]
  exact wrap_i64_nat _ (Nat.lt_of_lt_of_le (Nat.or_lt_two_pow (n:=63) (by omega) (by omega)) (by decide))
/-- Two to a small power, reckoned as ints are. -/
theorem pow_i64(k:Nat)(h:k<63):wrap64 ((2:Int)^k)=((2^k:Nat):Int):=by
  have h1:2^k≤2^62:=Nat.pow_le_pow_right (by omega) (by omega)
  rw [show (2:Int)^k=((2^k:Nat):Int) by push_cast;rfl]
  generalize 2^k=x at h1
  unfold wrap64
  omega
theorem mask_i64(k:Nat)(h:k<63):wrap64 (wrap64 ((2:Int)^k)-1)=((2^k-1:Nat):Int):=by
  have h1:2^k≤2^62:=Nat.pow_le_pow_right (by omega) (by omega)
  have h0:=Nat.two_pow_pos k
  rw [pow_i64 k h]
  generalize 2^k=x at h1 h0
  unfold wrap64
  omega
end Go
namespace Go.Proofs.YtngojkompmcceaaGreatDoor
attribute [local irreducible] Region.wanted
open Go.RowKit
set_option linter.unusedVariables false
set_option maxRecDepth 100000
set_option maxHeartbeats 8000000
def FI(n:Nat):Nat:=if n=0 then 0 else n.log2+1
theorem GL(n:Nat):n<2^FI n∧(0<n→1≤FI n∧2^(FI n-1)≤n):=by
 unfold FI
 by_cases h:n=0
 ·subst h;simp
 rw [if_neg h]
 exact ⟨Nat.lt_log2_self,fun _=>⟨by omega,by rw [Nat.add_sub_cancel];exact Nat.log2_self_le h⟩⟩
theorem E7(n k:Nat)(h:n<2^k):FI n≤k:=by
 obtain ⟨_,h2⟩:=GL n
 rcases Nat.eq_zero_or_pos n with h0|h0
 ·subst h0;simp [FI]
 obtain ⟨h3,h4⟩:=h2 h0
 have h5:=Nat.lt_of_le_of_lt h4 h
 have:=(Nat.pow_lt_pow_iff_right (show 1<2 by omega)).1 h5
 omega
theorem H3(n k:Nat)(h1:2^k≤n)(h2:n<2^(k+1)):FI n=k+1:=by
 have h3:=E7 n (k+1) h2
 obtain ⟨h4,_⟩:=GL n
 have h5:=Nat.lt_of_le_of_lt h1 h4
 have:=(Nat.pow_lt_pow_iff_right (show 1<2 by omega)).1 h5
 omega
theorem LR(n:Nat)(h:n<2^64):Lib.bitLen n=FI n:=by
 rcases Nat.eq_zero_or_pos n with h0|h0
 ·subst h0;rfl
 obtain ⟨h1,h2,h3⟩:=Lib.bitLenAux_bounds 64 n h (by omega)
 have:=H3 n (Lib.bitLen n-1) h2 (by rw [show Lib.bitLen n-1+1=Lib.bitLen n by have:1≤Lib.bitLen n:=h1;omega];exact h3)
 have h4:1≤Lib.bitLen n:=h1
 omega
theorem Jk(x:Nat)(w:World)(h:x<65536):Calls Tryz.prog 71 #[.int .u64 x] w fun e w'=>e= .returned (.int .i64 (FI x))∧w=w':=
 (Tryz.bits_Len x w (by omega) (by omega)).mono fun e w' ⟨h1,h2⟩=>⟨by rw [h1,Int.toNat_natCast,LR x (by omega)],h2.symm⟩
def sz(n:Int):Nat:=FI n.natAbs
def sv(n:Int):Int:=if n<0 then n+(2^sz n-1:Nat) else n
theorem Jp(n:Int)(h: -4096<n∧n<4096):sz n≤12:=E7 _ 12 (by omega)
theorem ER(n:Int)(w:World)(h0: -4096<n)(h1:n<4096):
 Calls Tryz.prog 50 #[.int .i64 n] w fun e w'=>e= .returned (.tuple #[.int .i64 (sz n), .int .i64 (sv n), .int .i64 0])∧w=w':=by
 obtain ⟨m,hm⟩:∃m,m=n.natAbs:=⟨_,rfl⟩
 have hmax:max n (-n)=(m:Int):=by omega
 have hm4:m<4096:=by omega
 have hu:IntKind.u64.wrap (m:Int)=(m:Int):=by simp [IntKind.wrap,IntKind.signed,IntKind.bits];omega
 have h2: -4095≤n:=by omega
 obtain ⟨k,hk⟩:∃k,FI m=k:=⟨_,rfl⟩
 have hk12:k≤12:=by rw [←hk];exact E7 m 12 (by omega)
 have HV:=AD (show sv n=if n<0 then n+(2^sz n-1:Nat) else n from rfl)
 have HK:=AD hk
 have HZ:Hid (sz n=k):=by unfold Hid sz;rw [←hm,hk]
 have HPW:=AD (mask_i64 k (by omega))
 have hp1:2^k≤2^12:=Nat.pow_le_pow_right (by omega) hk12
 have hp0:=Nat.two_pow_pos k
 have hq4:2^k-1≤4095:=by omega
 obtain ⟨q,hq⟩:∃q,2^k-1=q:=⟨_,rfl⟩
 rw [hq] at HPW hq4
 have HQ:=AD hq
 have hk64:(k:Int)<64:=by omega
 clear hm hp1 hp0 hq hk
 by_cases hn:n<0
 ·have HV2:Hid (sv n=n+(q:Int)):=by unfold Hid;rw [HV.out,if_pos hn,HZ.out,HQ.out]
  clear HV
  have hpw:=HPW.out
  clear HPW
  go_enter Tryz.func50,Tryz.ntmps50
  go_wp2_with (go_at_call 71;refine (Jk m _ (by omega)).mono ?_;rintro e w' ⟨rfl,rfl⟩;rw [HK.out])
  refine bodyPost_ret (results_tmp3 rfl _ _ _) rfl ?_
  exact ⟨by rw [HZ.out,HV2.out];rfl,rfl⟩
 have HV2:Hid (sv n=n):=by unfold Hid;rw [HV.out,if_neg hn]
 clear HV HPW
 go_enter Tryz.func50,Tryz.ntmps50
 go_wp2_with (go_at_call 71;refine (Jk m _ (by omega)).mono ?_;rintro e w' ⟨rfl,rfl⟩;rw [HK.out])
 refine bodyPost_ret (results_tmp3 rfl _ _ _) rfl ?_
 exact ⟨by rw [HZ.out,HV2.out];rfl,rfl⟩
def Ed(s:Int×Int×Bool):Int×Int×Bool:=
 if s.2.2=true∧s.2.1=7 then (s.1+1,s.2.1,false)
 else if s.2.2=true∧s.1=0 then (s.1,s.2.1+1,false)
 else if s.2.2=true then (s.1-1,s.2.1+1,true)
 else if s.1=7 then (s.1,s.2.1+1,true)
 else if s.2.1=0 then (s.1+1,s.2.1,true)
 else (s.1+1,s.2.1-1,false)
def LD:Nat→Int×Int×Bool
 | 0=>(0,0,true)
 | k+1=>Ed (LD k)
def zn(k:Nat):Nat:=(8*(LD k).1+(LD k).2.1).toNat
def Mb:List Nat:=(List.range 64).map zn
def zi:List Int:=Mb.map fun (n:Nat)=>(n:Int)
theorem Of:∀k,k<64→0≤(LD k).1∧(LD k).1≤7∧0≤(LD k).2.1∧(LD k).2.1≤7:=by decide+kernel
def zl(k:Nat):List Int:=zi.take k++List.replicate (64-k) 0
theorem Oc:∀k,k<65→(zl k).length=64:=by decide+kernel
theorem Od:∀k,k<64→(zl k).set k (8*(LD k).1+(LD k).2.1)=zl (k+1):=by decide+kernel
theorem Ob:zl 64=zi:=by decide+kernel
theorem MY:zi.length=64:=by decide+kernel
theorem JY(w:World):Calls Tryz.prog 110 #[] w fun e w'=>e= .returned (.agg (iv zi))∧AP w w':=by
 go_enter Tryz.func110,Tryz.ntmps110
 go_wp2_with fail
 go_loopg [1,2,3,5] 64 (fun gk rv cv uv xv wr=>∃(i:Nat) (r c:Int) (u:Bool),gk+i=64∧xv= .int .i64 i∧rv= .int .i64 r∧cv= .int .i64 c∧uv= .bool u∧Hid (LD i=(r,c,u))∧B4 wr w.heap.size (zl i)∧AP w wr)
 case atStart=>exact ⟨0,0,0,true,rfl,rfl,rfl,rfl,rfl,rfl,B4.new w (List.replicate 64 0) 32,(AP.refl w).alloc _⟩
 case round=>
  obtain ⟨i,r,c,u,hi,rfl,rfl,rfl,rfl,hst,hrow,hE⟩:=hrel
  by_cases hlt:i<64
  ·have hb:=Of i hlt
   rw [hst.out] at hb
   dsimp only at hb
   obtain ⟨hb1,hb2,hb3,hb4⟩:=hb
   have hcell:=hrow.cell i (by rw [Oc i (by omega)];exact hlt)
   have hfree:=hrow.free i
   have hset:=Od i hlt
   rw [hst.out] at hset
   have hrow2:=hrow.set i (8*r+c)
   rw [hset] at hrow2
   have hE2:AP w (wr.setCell ⟨w.heap.size,i,none⟩ (.int .i64 (8*r+c))):=hE.setCell (Nat.le_refl _) _
   have hs:Hid (LD (i+1)=Ed (r,c,u)):=by unfold Hid;rw [←hst.out];rfl
   clear hset hst
   have fin:∀(r' c':Int)(u':Bool),Ed (r,c,u)=(r',c',u')→Hid (LD (i+1)=(r',c',u')):=fun r' c' u' h=>by rw [←h];exact hs
   clear hs
   have FIN:=AD fin
   clear fin
   have hi':gk-1+(i+1)=64:=by omega
   have HI:=AD hi'
   clear hi'
   have HR:=AD hrow2
   have HE:=AD hE2
   clear hrow2 hE2
   cases u
   ·by_cases h7:r=7
    ·subst h7
     go_wp2_with fail
     go_roundg (gk-1)
     case measure=>omega
     case rel=>exact ⟨i+1,_,_,_,HI.out,by go_num,rfl,rfl,rfl,FIN.out _ _ _ (by simp [Ed]),HR.out,HE.out⟩
    by_cases h0:c=0
    ·subst h0
     go_wp2_with fail
     go_roundg (gk-1)
     case measure=>omega
     case rel=>exact ⟨i+1,_,_,_,HI.out,by go_num,rfl,rfl,rfl,FIN.out _ _ _ (by simp [Ed];omega),by simpa using HR.out,by simpa using HE.out⟩
    go_wp2_with fail
    go_roundg (gk-1)
    case measure=>omega
    case rel=>exact ⟨i+1,_,_,_,HI.out,by go_num,rfl,rfl,rfl,FIN.out _ _ _ (by simp [Ed,h7,h0]),HR.out,HE.out⟩
   by_cases h7:c=7
   ·subst h7
    go_wp2_with fail
    go_roundg (gk-1)
    case measure=>omega
    case rel=>exact ⟨i+1,_,_,_,HI.out,by go_num,rfl,rfl,rfl,FIN.out _ _ _ (by simp [Ed]),HR.out,HE.out⟩
   by_cases h0:r=0
   ·subst h0
    go_wp2_with fail
    go_roundg (gk-1)
    case measure=>omega
    case rel=>exact ⟨i+1,_,_,_,HI.out,by go_num,rfl,rfl,rfl,FIN.out _ _ _ (by simp [Ed];omega),by simpa using HR.out,by simpa using HE.out⟩
   go_wp2_with fail
   go_roundg (gk-1)
   case measure=>omega
   case rel=>exact ⟨i+1,_,_,_,HI.out,by go_num,rfl,rfl,rfl,FIN.out _ _ _ (by simp [Ed,h7,h0]),HR.out,HE.out⟩
  obtain rfl:i=64:=by omega
  rw [Ob] at hrow
  obtain ⟨t,hrow⟩:=hrow
  have hself:=setRow_self wr w.heap.size _ t _ hrow
  have hsz:(Tryz.prog.info? 32).map (·.size)=some (iv zi).size:=by rw [Cc,MY];kernel_rfl
  have HS:=AD hsz
  have HSelf:=AD hself
  clear hsz hself
  have hh:=AD hrow
  clear hrow
  go_wp2_with (first
   | refine wpList_load_row rfl 32 _ rfl w.heap.size rfl t (iv zi) (0,0) _ hh.out Tryz.underlying32 rfl HS.out ?_|(refine wpList_store_row rfl 32 _ _ rfl w.heap.size (iv zi) rfl rfl t (iv zi) hh.out HS.out rfl (G8 _) ?_;rw [HSelf.out]))
  refine bodyPost_ret (results_cell_row rfl _ wr w.heap.size t (iv zi) (0,0) _ rfl hh.out Tryz.underlying32 rfl HS.out) rfl ?_
  exact ⟨rfl,hE⟩
theorem Oa(i:Nat)(h:i<64):(iv zi)[i]? =some (.int .i64 (zn i:Int)):=by
 rw [G7 zi i (by rw [MY];exact h)]
 congr 2
 simp [AG,zi,Mb,List.getD,List.getElem?_map,List.getElem?_range h]
theorem Jz:∀i,i<64→zn i<64:=by decide+kernel
theorem Oe(i:Nat)(h:i<64):(zn i:Int)<64:=by have:=Jz i h;omega
def Er(l:List Int):List Int:=Mb.map fun n=>AG l n
theorem Mc:Mb.length=64:=by decide+kernel
theorem CB(l:List Int):(Er l).length=64:=by rw [Er,List.length_map,Mc]
theorem Ht(l:List Int)(i:Nat)(h:i<64):AG (Er l) i=AG l (zn i):=by
 simp [AG,Er,Mb,List.getD,List.getElem?_map,List.getElem?_range h]
theorem Ns(w:World)(l:List Int)(hl:l.length=64):Calls Tryz.prog 94 #[.agg (iv l)] w fun e w'=>e= .returned (.agg (iv (Er l)))∧AP w w':=by
 go_enter Tryz.func94,Tryz.ntmps94
 go_wp2_with fail
 refine (JY _).mono ?_
 rintro e w1 ⟨rfl,hE1⟩
 have hb:B4 w1 w.heap.size l:=((B4.new w l 33).alloc _).ext hE1
 have ho:B4 w1 (w.heap.size+1) (Bm (Er l) 0):=by
  rw [Gy,CB]
  have h:=(B4.new (w.alloc (.cells (iv l) 33)) (List.replicate 64 0) 33).ext hE1
  simpa using h
 have hE:AP w w1:=(((AP.refl w).alloc _).alloc _).trans hE1
 clear hE1
 go_wp2_with fail
 go_loopg [6] 64 (fun gk xv wr=>∃(i:Nat),gk+i=64∧xv= .int .i64 i∧B4 wr w.heap.size l∧B4 wr (w.heap.size+1) (Bm (Er l) i)∧AP w wr)
 case atStart=>exact ⟨0,rfl,rfl,hb,ho,hE⟩
 case round=>
  clear hb ho hE
  obtain ⟨i,hi,rfl,hb,ho,hE⟩:=hrel
  by_cases hlt:i<64
  ·have hz:=Oa i hlt
   have hzl:=Oe i hlt
   have hzl':=Jz i hlt
   have hcell:=hb.cell (zn i) (by omega)
   have hcell2:=ho.cell i (by rw [ID _ _ (by rw [CB];omega),CB];exact hlt)
   have hfree:=ho.free i
   have ho2:=ho.set i (AG (Er l) i)
   rw [IE _ _ (by rw [CB];exact hlt),Ht _ _ hlt] at ho2
   have HB:=AD (hb.setOther ⟨w.heap.size+1,i,none⟩ (.int .i64 (AG l (zn i))) (by simp))
   have HO:=AD ho2
   have HE:=AD (hE.setCell (a:=⟨w.heap.size+1,i,none⟩) (by simp) (.int .i64 (AG l (zn i))))
   have hi':gk-1+(i+1)=64:=by omega
   have HI:=AD hi'
   clear hi' ho2
   go_wp2_with fail
   go_roundg (gk-1)
   case measure=>omega
   case rel=>exact ⟨i+1,HI.out,by go_num,HB.out,HO.out,HE.out⟩
  obtain rfl:i=64:=by omega
  have ho':B4 wr (w.heap.size+1) (Er l):=by have h:=IC (Er l);rw [CB] at h;rw [h] at ho;exact ho
  clear ho
  obtain ⟨t,ho⟩:=ho'
  have HSelf:=AD (setRow_self wr (w.heap.size+1) _ t _ ho)
  have HS:=AD (show (Tryz.prog.info? 33).map (·.size)=some (iv (Er l)).size by rw [Cc,CB];kernel_rfl)
  have hh:=AD ho
  clear ho
  go_wp2_with (first
   | refine wpList_load_row rfl 33 _ rfl (w.heap.size+1) rfl t (iv (Er l)) (0,0) _ hh.out Tryz.underlying33 rfl HS.out ?_|(refine wpList_store_row rfl 33 _ _ rfl (w.heap.size+1) (iv (Er l)) rfl rfl t (iv (Er l)) hh.out HS.out rfl (G8 _) ?_;rw [HSelf.out]))
  refine bodyPost_ret (results_cell_row rfl _ wr (w.heap.size+1) t (iv (Er l)) (0,0) _ rfl hh.out Tryz.underlying33 rfl HS.out) rfl ?_
  exact ⟨rfl,hE⟩
end Go.Proofs.YtngojkompmcceaaGreatDoor
namespace Go.Proofs.YtngojkompmcceaaGreatDoor
attribute [local irreducible] Region.wanted
set_option linter.unusedVariables false
set_option maxRecDepth 100000
set_option maxHeartbeats 8000000
abbrev Jb:=Int×Int×Int
def F0(l:List Jb):List Int:=l.flatMap fun x=>[x.1,x.2.1,x.2.2]
theorem NI(l m:List Jb):F0 (l++m)=F0 l++F0 m:=by simp [F0]
theorem II(l:List Jb)(x:Jb):F0 (l++[x])=F0 l++[x.1,x.2.1,x.2.2]:=by simp [F0]
theorem Jh:∀(l:List Jb)(k:Nat)(x:Jb),l[k]? =some x→((F0 l).drop (k*3)).take 3=[x.1,x.2.1,x.2.2]
 | [],k,x,h=>by simp at h
 | y::l,0,x,h=>by
   obtain rfl:y=x:=by simpa using h
   simp [F0]
 | y::l,k+1,x,h=>by
   have:=Jh l k x (by simpa using h)
   rw [show (k+1)*3=k*3+3 by omega]
   simp only [F0,List.flatMap_cons] at*
   rw [List.drop_append,List.drop_of_length_le (by simp)]
   simpa using this
def JP(r:Nat)(n:Int):Jb:=(((r*16+sz n:Nat):Int),(sz n:Int),sv n)
def FZ:Jb:=(240,0,0)
def QE:Jb:=(0,0,0)
def JO:Nat→List Int→List Jb
 | r,[]=>if 0<r then [QE] else []
 | r,n::l=>if n=0 then JO (r+1) l else List.replicate (r/16) FZ++(JP (r%16) n::JO 0 l)
def Cl(before:Int)(z:List Int):List Jb:=JP 0 (AG z 0-before)::JO 0 (z.drop 1)
theorem Ni(n:Int)(h: -2048<n∧n<2048):sz n≤11:=E7 _ 11 (by omega)
theorem Hm:∀(l:List Int)(r:Nat),(JO r l).length≤r+l.length
 | [],r=>by
   rw [JO];split<;>simp
   omega
 | n::l,r=>by
   rw [JO]
   split
   ·have:=Hm l (r+1);simp only [List.length_cons];omega
   have:=Hm l 0
   simp only [List.length_append,List.length_replicate,List.length_cons]
   omega
theorem MM(before:Int)(z:List Int)(h:z.length=64):1≤(Cl before z).length∧(Cl before z).length≤64:=by
 have:=Hm (z.drop 1) 0
 simp only [Cl,List.length_cons,List.length_drop] at*
 omega
end Go.Proofs.YtngojkompmcceaaGreatDoor
namespace Go.Proofs.YtngojkompmcceaaGreatDoor
attribute [local irreducible] Region.wanted
open Go.RowKit
set_option linter.unusedVariables false
set_option maxRecDepth 100000
set_option maxHeartbeats 8000000
theorem Ir(m0:Int)(m1:Int)(m2:Int)(w:World):(Instr.build 72 #[(0, .int .i64 m0),(1, .int .i64 m1),(2, .int .i64 m2)]).run Tryz.prog w= .ok (.agg #[.int .i64 m0, .int .i64 m1, .int .i64 m2]) w:=by kernel_rfl
theorem LQ(m0:Int)(w:World):(Instr.build 72 #[(0, .int .i64 m0)]).run Tryz.prog w= .ok (.agg #[.int .i64 m0, .int .i64 0, .int .i64 0]) w:=by kernel_rfl
def OQ(n:Int):Bool:=decide (-2047≤n)&&decide (n≤2047)
theorem NM(n:Int):OQ n=true↔ -2047≤n∧n≤2047:=by simp [OQ]
theorem C4(n:Int)(w:World):Calls Tryz.prog 64 #[.int .i64 n] w fun e w'=>e= .returned (.bool (OQ n))∧w=w':=by
 go_enter Tryz.func64,Tryz.ntmps64
 repeat' (first
  | go_skip|((first|(with_reducible refine F2 ?_)|(with_reducible refine LA ?_));(first|go_big_want|go_step);go_step)|((with_reducible refine Al _ (.pick _ _ _) ?_);first|(refine Ag rfl AA ?_;go_step)|(refine AZ rfl AA ?_;go_step))|((refine AM 4 ?_);(refine Bz _ (V.geq rfl rfl) AA (fun hB=>?_) (fun hB=>?_)<;>(try exact Ak)<;>go_step))|((with_reducible refine Al _ (.binOp .leq _ _ _ _) ?_);(refine AY AA (V.leq rfl rfl) ?_;go_step))|(refine AF ?_;go_step)|fail)
 all_goals (go_ret;exact ⟨EP (by unfold OQ;simp;omega),rfl⟩)
theorem OW(r k:Nat)(hr:r≤15)(hk:k≤12):bits .or .i64 ((r:Int)*2^4) (k:Int)=((r*16+k:Nat):Int):=by
 rw [show (r:Int)*2^4=((r*16:Nat):Int) by push_cast;omega,bits_or_i64_nat _ _ (by omega) (by omega)]
 congr 1
 rw [show r*16=2^4*r by omega]
 exact (Nat.two_pow_add_eq_or_of_lt (i:=4) (by omega) r).symm
theorem Gi(w0:World)(r:Nat)(n:Int)(hr:r≤15)(h0: -4096<n)(h1:n<4096):
 Calls Tryz.prog 95 #[.int .i64 r, .int .i64 n] w0 fun e w=>e= .returned (.agg #[.int .i64 (JP r n).1, .int .i64 (JP r n).2.1, .int .i64 (JP r n).2.2])∧AP w0 w:=by
 have hs:=Jp n ⟨h0,h1⟩
 have HT:=AD (show JP r n=(((r*16+sz n:Nat):Int),(sz n:Int),sv n) from rfl)
 obtain ⟨k,hk⟩:∃k,sz n=k:=⟨_,rfl⟩
 obtain ⟨v,hv⟩:∃v,sv n=v:=⟨_,rfl⟩
 rw [hk,hv] at HT
 have HO:=AD (OW r k hr (by omega))
 have HK:=AD hk
 have HV:=AD hv
 clear hk hv hs
 have hS:=St.start w0
 go_enter Tryz.func95,Tryz.ntmps95
 repeat' (first
  | (refine Av 50 ?_);refine Aw AA Tryz.call50 (ER n _ h0 h1) ?_;rintro e w' ⟨rfl,rfl⟩;rw [HK.out,HV.out];refine A9 ?_;go_step|(refine AM 17 ?_);(refine AR (.int _ (((r*16+k:Nat):Int))) (V.as (V.or rfl rfl) (by exact HO.out)) (by kernel_rfl) ?_;go_step)|refine X0 ?_|refine X8 ?_|(with_reducible refine Al _ (.binOp .shl _ _ _ _) ?_);(refine AY AA (V.shlI rfl rfl BW (by omega) (by omega)) ?_;go_step)|(refine AM 20 ?_);(refine AY AA (V.build (vs:=[(0,_),(1,_),(2,_)]) rfl (Ir _ _ _)) ?_;go_step)|(refine AM 4 ?_);(refine Aq ?_;apply CU (o:=⟨some 4,_,_,_,_,_⟩) hS 72 rfl (.agg #[.int .i64 0, .int .i64 0, .int .i64 0]) [.int .i64 0, .int .i64 0, .int .i64 0] (fun w=>Tryz.zeroValue72 w) rfl;clear hS;intro g4 w hS;refine AB ?_;go_step)|refine QU ?_;clear hS;intro w hS|refine AF ?_;go_step|fail)
 refine Cd rfl (AC.blk hS rfl (Ad (n:=3) rfl) AS rfl) rfl ?_
 exact ⟨(by rw [HT.out];first|done|rfl),hS.1⟩
theorem JQ(w0:World)(before:Int)(l:List Int)(hl:A2 l 64)(hb: -2047≤before∧before≤2047)(hz:∀i,i<64→ -2047≤AG l i∧AG l i≤2047):
 Calls Tryz.prog 67 #[.int .i64 before, .agg (iv l)] w0 fun e w=>∃ad c,e= .returned (.slice ad (Cl before (Er l)).length c)∧St w0 w [own 72 3 ad (Cl before (Er l)).length c ((F0 (Cl before (Er l))).map (Value.int .i64))]:=by
 have hlz:=CB l
 have hzz:∀i,i<64→ -2047≤AG (Er l) i∧AG (Er l) i≤2047:=fun i hi=>by rw [Ht _ i hi];exact hz _ (Jz i hi)
 obtain ⟨z,hze⟩:∃z,Er l=z:=⟨_,rfl⟩
 have HZ:=AD hze
 rw [hze] at hlz hzz⊢
 have HZl:A2 z 64:=hlz
 have HZZ:=AD hzz
 have hz0:=hzz 0 (by omega)
 have hll:l.length=64:=hl
 obtain ⟨all,hall⟩:∃a,Cl before z=a:=⟨_,rfl⟩
 rw [hall]
 have HAll:=AD hall
 have hzl:=AD hlz
 clear hze hlz hzz hall hz
 have hS:=St.start w0
 go_enter Tryz.func67,Tryz.ntmps67
 repeat' (first
  | (refine Av 94 ?_);refine Aw AA Tryz.call94 (Ns _ l hll) ?_;rintro e w ⟨rfl,hE⟩;rw [HZ.out];replace hS:=hS.ext hE;clear hE;refine A9 ?_;go_step|(refine Av 95 ?_);refine Aw AA Tryz.call95 (Gi _ 0 (AG z 0-before) (by omega) (by omega) (by omega)) (Dj hS ?_);clear hS;intro w hS;go_step|(refine AM 16 ?_);(refine Aq ?_;apply CV (o:=⟨some 16,_,_,_,_,_⟩) hS 68 1 _ rfl 72 3 24 OL _ _;(case hvs=>(repeat (first|exact AX.nil|(apply AX.agg;(rfl);(rfl))|(apply AX.one;exact Dz;(rfl);(rfl)))));(case hn=>rfl);(case hn0=>decide);(case hns=>decide);clear hS;intro g16 w hS;simp only [List.cons_append,List.nil_append] at hS;refine AB ?_;go_step)|refine X0 ?_|(refine AM 11 ?_);(refine AY AA (V.indexAr Tryz.underlying33 BX rfl rfl (show Ar 0 0 from rfl) (by omega) (show 0*1=0 from rfl) Br) ?_;go_step)|refine Oi ?_|refine Ok ?_|refine PW ?_|refine Mx 3 ?_;clear hS;intro g3 w hS|refine Mi ?_|refine LN ?_;clear hS;intro w hS|(with_reducible refine Al _ (.load 3 _) ?_);(refine Aq ?_;apply Dh hS 3 _ rfl _ _ rfl (Ac rfl) _ _;(case hp=>exact AS);(case hi=>omega);refine AB ?_;go_step)|refine AF ?_;go_step|fail)
 rw [show 0+1*1=1 from rfl,show 64-1=63 from rfl]
 replace hS:St w0 w [own 72 3 (some ⟨g16,0,none⟩) 1 1 ((F0 [JP 0 (AG z 0-before)]).map (Value.int .i64)),arr g3 64 z]:=hS
 go_loopg [5,6,19] 63 (fun gk ov rv kv w=>∃(k r m:Nat) (o:List Jb) (a':Option Addr) (c':Nat),gk+k=63∧kv= .int .i64 k∧rv= .int .i64 r∧ov= .slice a' m c'∧m+r≤k+1∧Hid (o.length=m)∧Hid (all=o++JO r (z.drop (k+1)))∧St w0 w [own 72 3 a' m c' ((F0 o).map (Value.int .i64)),arr g3 64 z])
 case atStart=>exact ⟨0,0,1,[JP 0 (AG z 0-before)],_,_,rfl,rfl,rfl,rfl,by omega,AD rfl,AD (by rw [←HAll.out];rfl),hS⟩
 case round=>
  clear hS
  obtain ⟨k,r,m,o,a',c',hk,rfl,rfl,rfl,hmr,HO,HA,hS⟩:=hrel
  by_cases hlt:k<63
  ·have hdrop:z.drop (k+1)=AG z (k+1)::z.drop (k+2):=by
    rw [List.drop_eq_getElem_cons (by rw [hzl.out];omega)]
    simp [AG,List.getD,hzl.out,show k+1<64 by omega]
   have hn:=HZZ.out (k+1) (by omega)
   have ha:=HA.out
   rw [hdrop,JO] at ha
   obtain ⟨n,hne⟩:∃n,AG z (k+1)=n:=⟨_,rfl⟩
   rw [hne] at ha hn
   have HN:Hid (AG z (1+k)=n):=AD (by rw [←hne];congr 1;omega)
   clear hdrop hne HA
   by_cases h0:n=0
   ·subst h0
    rw [if_pos rfl] at ha
    have HA2:=AD ha
    clear ha
    repeat' (first
     | (refine AM 22 ?_);refine Aq ?_;apply Dh hS 3 _ rfl _ _ rfl (Ac rfl) _ _;(case hp=>exact AS);(case hi=>omega);rw [HN.out];refine AB ?_;go_step|refine X0 ?_|refine X3 ?_|refine Pj 21 ?_|refine Mz ?_|refine X5 ?_|refine AF ?_;go_step|fail)
    go_roundg (gk-1)
    case measure=>omega
    case rel=>exact ⟨k+1,r+1,m,o,a',c',by omega,by go_num,by go_num,rfl,by omega,HO,HA2,hS⟩
   rw [if_neg h0] at ha
   have HA2:=AD ha
   clear ha
   repeat' (first
    | (refine AM 22 ?_);refine Aq ?_;apply Dh hS 3 _ rfl _ _ rfl (Ac rfl) _ _;(case hp=>exact AS);(case hi=>omega);rw [HN.out];refine AB ?_;go_step|refine X0 ?_|refine X3 ?_|refine Pj 21 ?_|refine Mz ?_|refine AF ?_;go_step|fail)
   obtain ⟨gk1,hgk1⟩:∃x,x=gk:=⟨_,rfl⟩
   subst hgk1
   go_loopg [5,6] r (fun gk ov rv w=>∃(m:Nat) (o:List Jb) (a':Option Addr) (c':Nat),rv= .int .i64 gk∧ov= .slice a' m c'∧m+gk≤k+1∧Hid (o.length=m)∧Hid (all=o++(List.replicate (gk/16) FZ++(JP (gk%16) n::JO 0 (z.drop (k+2)))))∧St w0 w [own 72 3 a' m c' ((F0 o).map (Value.int .i64)),arr g3 64 z])
   case atStart=>exact ⟨m,o,a',c',rfl,rfl,hmr,HO,HA2,hS⟩
   case round=>
    clear hS HO HA2
    obtain ⟨m,o,a',c',rfl,rfl,hmr,HO,HA2,hS⟩:=hrel
    by_cases hbig:15<gk
    ·have HA3:Hid (all=(o++[FZ])++(List.replicate ((gk-16)/16) FZ++(JP ((gk-16)%16) n::JO 0 (z.drop (k+2))))):=AD (by
      rw [HA2.out,show gk/16=(gk-16)/16+1 by omega,show gk%16=(gk-16)%16 by omega,List.replicate_succ];simp)
     have HF:=AD (show F0 (o++[FZ])=F0 o++[240,0,0] from II o FZ)
     clear HA2
     repeat' (first
      | refine X0 ?_|refine X9 ?_|refine Oi ?_|(refine AM 32 ?_);(refine AY AA (V.build (vs:=[(0,_)]) rfl (LQ _)) ?_;go_step)|refine Pu 33 ?_;clear hS;intro g33 w hS|refine Pv 34 ?_;clear hS;intro ad34 c34 w hS|refine AF ?_;go_step|fail)
     go_roundg (gk-16)
     case measure=>omega
     case rel=>exact ⟨m+1,o++[FZ],ad34,c34,by go_num,rfl,by omega,AD (by rw [List.length_append,HO.out];rfl),HA3,(by rw [HF.out];exact hS.sub Ae)⟩
    have HA3:Hid (all=(o++[JP gk n])++JO 0 (z.drop (k+2))):=AD (by
     rw [HA2.out,show gk/16=0 by omega,show gk%16=gk by omega];simp)
    have HF:=AD (II o (JP gk n))
    clear HA2
    repeat' (first
     | (refine Av 95 ?_);refine Aw AA Tryz.call95 (Gi _ gk n (by omega) (by omega) (by omega)) (Dj hS ?_);clear hS;intro w hS;go_step|refine X0 ?_|refine X9 ?_|refine X5 ?_|refine Pu 39 ?_;clear hS;intro g39 w hS|refine Pv 40 ?_;clear hS;intro ad40 c40 w hS|refine AF ?_;go_step|fail)
    go_roundg (gk1-1)
    case measure=>omega
    case rel=>exact ⟨k+1,0,m+1,o++[JP gk n],ad40,c40,by omega,by go_num,rfl,rfl,by omega,AD (by rw [List.length_append,HO.out];rfl),HA3,(by rw [HF.out];exact hS.sub Ae)⟩
  obtain rfl:k=63:=by omega
  have ha:=HA.out
  rw [show z.drop (63+1)=[] by rw [List.drop_eq_nil_iff,hzl.out];omega,JO] at ha
  by_cases h0:0<r
  ·rw [if_pos h0] at ha
   have HL:=AD (show all.length=m+1 by rw [ha,List.length_append,HO.out];rfl)
   have HF:=AD (show F0 all=F0 o++[0,0,0] by rw [ha,NI];rfl)
   clear ha HA
   repeat' (first
    | refine X0 ?_|refine X3 ?_|refine X9 ?_|(refine AM 45 ?_);(refine AY AA (V.build (vs:=[(0,_)]) rfl (LQ _)) ?_;go_step)|refine Pu 46 ?_;clear hS;intro g46 w hS|refine Pv 47 ?_;clear hS;intro ad47 c47 w hS|refine AF ?_;go_step|fail)
   go_ret
   refine ⟨ad47,c47,(by rw [HL.out];first|done|rfl),?_⟩
   rw [HL.out,HF.out]
   exact hS.sub Ae
  rw [if_neg h0,List.append_nil] at ha
  have HL:=AD (show all.length=m by rw [ha,HO.out])
  have HF:=AD (show F0 all=F0 o by rw [ha])
  clear ha HA
  repeat' (first
   | refine X0 ?_|refine X3 ?_|refine X9 ?_|refine AF ?_;go_step|fail)
  go_ret
  refine ⟨a',c',(by rw [HL.out];first|done|rfl),?_⟩
  rw [HL.out,HF.out]
  exact hS.sub Ae
def LS(l:List Int):Bool:=BJ l (-2047) 2047
def EW(before:Int)(l:List Int):Int:=if OQ before=true∧LS l=true then 0 else 1
def D7(before:Int)(l:List Int):List Jb:=if EW before l=0 then Cl before (Er l) else []
theorem Jq{before:Int}{l:List Int}(hl:l.length=64)(h:EW before l=0):(-2047≤before∧before≤2047)∧∀i,i<64→ -2047≤AG l i∧AG l i≤2047:=by
 unfold EW at h
 split at h
 ·rename_i h1
  exact ⟨(NM _).1 h1.1,fun i hi=>(BZ l (-2047) 2047).1 h1.2 i (by omega)⟩
 cases h
theorem Ew(n:Int)(w:World):Calls Tryz.prog 66 #[.int .i64 n] w fun e w'=>e= .returned (.bool (decide (n< -2047)||decide (2047<n)))∧w=w':=by
 go_enter Tryz.func66,Tryz.ntmps66
 repeat' (first
  | (refine Av 64 ?_);refine Aw AA Tryz.call64 (C4 n _) ?_;rintro e w' ⟨rfl,rfl⟩;refine A9 ?_;go_step|refine X0 ?_|refine P1 ?_|refine AF ?_;go_step|fail)
 all_goals (go_ret;exact ⟨EP (by rw [Bool.eq_iff_iff];unfold OQ;simp<;>omega),rfl⟩)
theorem Hn(w0:World)(before:Int)(l:List Int)(hl:A2 l 64):
 Calls Tryz.prog 40 #[.int .i64 before, .agg (iv l)] w0 fun e w=>∃ad c,e= .returned (.tuple #[.slice ad (D7 before l).length c, .int .i64 (EW before l)])∧St w0 w [own 72 3 ad (D7 before l).length c ((F0 (D7 before l)).map (Value.int .i64))]:=by
 have hll:l.length=64:=hl
 have hS:=St.start w0
 have hk:=Tryz.call66
 obtain ⟨b1,hb1⟩:∃b,OQ before=b:=⟨_,rfl⟩
 obtain ⟨b2,hb2⟩:∃b,LS l=b:=⟨_,rfl⟩
 have hnot:(l.any fun n=>decide (n< -2047)||decide (2047<n))= !b2:=by rw [←hb2,LS,BJ,Bool.not_not]
 have HB1:=AD hb1
 have HN:=AD hnot
 by_cases hbad:b1=true∧b2=true
 case neg=>
  have HE:=AD (show EW before l=1 by unfold EW;rw [if_neg (by rw [hb1,hb2];exact hbad)])
  have HL:=AD (show D7 before l=[] by unfold D7;rw [if_neg (by rw [HE.out];decide)])
  clear hb1 hb2 hnot
  cases b1
  case false=>
   clear hbad HN
   go_enter Tryz.func40,Tryz.ntmps40
   repeat' (first
    | (refine Av 64 ?_);refine Aw AA Tryz.call64 (C4 before _) ?_;rintro e w' ⟨rfl,rfl⟩;rw [HB1.out];refine A9 ?_;go_step|go_skip|refine X0 ?_|refine X6 ?_|refine Og 8 ?_ ?_<;>intro hB<;>(try exact Na hB)<;>go_step|refine Mx 3 ?_;clear hS;intro g3 w hS|refine AF ?_;go_step|fail)
   refine AI (xs:=[_,_]) rfl (.cons (AC.tmp rfl) (.cons (AC.tmp rfl) (.nil))) (by simp) rfl ?_
   refine ⟨none,0,(by rw [HE.out,HL.out];first|done|rfl),?_⟩
   rw [HL.out]
   exact (St.of_ext hS.1).nil _ _
  case true=>
   have hb2:b2=false:=by cases b2<;>simp_all
   subst hb2
   clear hbad
   go_enter Tryz.func40,Tryz.ntmps40
   repeat' (first
    | (refine Av 64 ?_);refine Aw AA Tryz.call64 (C4 before _) ?_;rintro e w' ⟨rfl,rfl⟩;rw [HB1.out];refine A9 ?_;go_step|(refine Av 65 ?_);refine Aw AA Tryz.call65 (Au _ _ l (hS.isl AS (by decide)) 66 #[] (fun n=>decide (n< -2047)||decide (2047<n)) hk (fun n=>Ew n _)) ?_;rintro e w' ⟨rfl,rfl⟩;rw [HN.out];refine A9 ?_;go_step|refine X0 ?_|refine Jc ?_|refine Og 8 ?_ ?_<;>intro hB<;>(try exact Na hB)<;>go_step|refine Ok ?_|refine Mx 3 ?_;clear hS;intro g3 w hS|refine AF ?_;go_step|fail)
   refine AI (xs:=[_,_]) rfl (.cons (AC.tmp rfl) (.cons (AC.tmp rfl) (.nil))) (by simp) rfl ?_
   refine ⟨none,0,(by rw [HE.out,HL.out];first|done|rfl),?_⟩
   rw [HL.out]
   exact (St.of_ext hS.1).nil _ _
 ·obtain ⟨rfl,rfl⟩:=hbad
  have HE:=AD (show EW before l=0 by unfold EW;rw [if_pos ⟨hb1,hb2⟩])
  have HL:=AD (show D7 before l=Cl before (Er l) by unfold D7;rw [if_pos HE.out])
  obtain ⟨q1,q2⟩:=Jq hll HE.out
  have Q2:=AD q2
  clear hb1 hb2 hnot q2
  go_enter Tryz.func40,Tryz.ntmps40
  repeat' (first
   | (refine Av 64 ?_);refine Aw AA Tryz.call64 (C4 before _) ?_;rintro e w' ⟨rfl,rfl⟩;rw [HB1.out];refine A9 ?_;go_step|(refine Av 65 ?_);refine Aw AA Tryz.call65 (Au _ _ l (hS.isl AS (by decide)) 66 #[] (fun n=>decide (n< -2047)||decide (2047<n)) hk (fun n=>Ew n _)) ?_;rintro e w' ⟨rfl,rfl⟩;rw [HN.out];refine A9 ?_;go_step|(refine Av 67 ?_);refine Aw AA Tryz.call67 (JQ _ before l hl q1 Q2.out) ?_;rintro e w ⟨ad2,c2,rfl,hS2⟩;replace hS:=hS.call1 hS2;clear hS2;refine A9 ?_;go_step|refine X0 ?_|refine Jc ?_|refine Og 8 ?_ ?_<;>intro hB<;>(try exact Na hB)<;>go_step|refine Ok ?_|refine Mx 3 ?_;clear hS;intro g3 w hS|refine Mi ?_|refine AF ?_;go_step|fail)
  refine AI (xs:=[_,_]) rfl (.cons (AC.tmp rfl) (.cons (AC.tmp rfl) (.nil))) (by simp) rfl ?_
  refine ⟨ad2,c2,(by rw [HE.out,HL.out];first|done|rfl),?_⟩
  rw [HL.out]
  exact hS.sub Ae
end Go.Proofs.YtngojkompmcceaaGreatDoor
