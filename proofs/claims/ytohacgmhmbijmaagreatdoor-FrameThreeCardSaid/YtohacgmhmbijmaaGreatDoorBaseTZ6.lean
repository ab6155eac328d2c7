/- What the laws FrameThree need, part 6. -/
import Derived.Test.YtohacgmhmbijmaaGreatDoorBaseTZ1
import Derived.Test.YtohacgmhmbijmaaGreatDoorBaseTZ2
import Derived.Test.YtohacgmhmbijmaaGreatDoorBaseTZ3
import Derived.Test.YtohacgmhmbijmaaGreatDoorBaseTZ4
import Derived.Test.YtohacgmhmbijmaaGreatDoorBaseTZ5
import Derived.Laws.Bits64b
import Derived.Shelf.Small.Bits
import Derived.Shelf.Strconv.Itoa0
import Derived.Shelf.Strings.Search1
import Derived.Shelf.Bytes.SlIndexSmall
import Derived.Ground.SlbNamesProg
import Derived.Shelf.Bytes.SlCountOne
import Derived.Shelf.Bytes.SlIndexAt
import Derived.Shelf.Bytes.SlSearch0
import Derived.Shelf.Bytes.SlSearch1
import Derived.Shelf.Bytes.SlSearch2
import Derived.Shelf.Bytes.SlIndexWhole
import Derived.Shelf.LaysM
import Derived.Shelf.Bytes.SlCountWhole
import Derived.Shelf.Bytes.SlSplit
import Derived.Ground.SlbCloneProg
import Derived.Shelf.Bytes.SlClone
import Derived.Shelf.Bytes.SlEqualAll
import Derived.Shelf.Bytes.Small
import Derived.Shelf.Bytes.IndexByte
import Derived.Test.YtohacgmhmbijmaaGreatDoorProg
import Derived.Lib.ItoaNum
namespace Go.Proofs.YtohacgmhmbijmaaGreatDoor
attribute [local irreducible] Region.wanted
open Go.RowKit
set_option linter.unusedVariables false
set_option maxRecDepth 100000
set_option maxHeartbeats 8000000
theorem Mh(n m:Nat)(h:n≤m):2^n≤2^m:=Nat.pow_le_pow_right (by omega) h
theorem Z6(A v width:Nat)(hA:A<128)(hw:width≤24)(hv:v<2^width):bits .or .u64 (IntKind.u64.wrap ((A:Int)*2^width)) (v:Int)=((A*2^width+v:Nat):Int):=by
 have h1:A*2^width<128*16777216:=by
  have h2:=Mh width 24 hw
  have h3:A*2^width≤127*2^24:=Nat.mul_le_mul (by omega) h2
  omega
 have h4:=Nat.lt_of_lt_of_le hv (Mh width 24 hw)
 have e1:IntKind.u64.wrap ((A:Int)*2^width)=((A*2^width:Nat):Int):=by
  rw [show (A:Int)*2^width=((A*2^width:Nat):Int) by push_cast;rfl]
  generalize A*2^width=x at h1
  simp [IntKind.wrap,IntKind.signed,IntKind.bits]
  omega
 rw [e1,bits_or_u64_nat _ _ (by omega) (by omega)]
 congr 1
 rw [←Nat.shiftLeft_eq,Nat.shiftLeft_add_eq_or_of_lt hv]
theorem Wc(N R:Nat)(hN:N<18446744073709551616)(hR:R<64):bits .and .u64 (N:Int) (IntKind.u64.wrap (IntKind.u64.wrap ((2:Int)^R)-1))=((N%2^R:Nat):Int):=by
 have h1:2^R≤2^63:=Mh R 63 (by omega)
 have h0:0<2^R:=Nat.two_pow_pos R
 have e1:IntKind.u64.wrap (IntKind.u64.wrap ((2:Int)^R)-1)=((2^R-1:Nat):Int):=by
  rw [show (2:Int)^R=((2^R:Nat):Int) by push_cast;rfl]
  generalize 2^R=x at h1 h0
  simp [IntKind.wrap,IntKind.signed,IntKind.bits]
  omega
 rw [e1,bits_and_u64_nat _ _ hN (by omega),Nat.and_two_pow_sub_one_eq_mod]
def wr(g:Nat)(bs:List Bool):Au:=Zk fun x:Option Addr×Nat=>
 [blk g [.slice x.1 (bs.length/8) x.2, .int .u64 (Ec (bs.drop (8*(bs.length/8))):Nat), .int .i64 (bs.length%8:Nat)],
  own 5 1 x.1 (bs.length/8) x.2 (bv (CI (bs.length/8) bs))]
theorem Ml(W w:World)(rs rs':List Au)(g:Nat)(bs:List Bool)(width value:Nat)(hS:St W w rs)(hp:AT (wr g bs) rs rs')(hw:width≤24)(hv:value<2^width)(hb:bs.length+width≤1099511627776):
 Calls Tryz.prog 111 #[.pointer (some ⟨g,0,none⟩), .int .i64 width, .int .i64 value] w fun e w'=>e= .returned (.tuple #[])∧St W w' (wr g (bs++A2 width value)::rs'):=by
 obtain ⟨⟨ad,c⟩,hS⟩:=(hS.pull hp).open
 have hv24:value<16777216:=Nat.lt_of_lt_of_le hv (Nat.pow_le_pow_right (n:=2) (by omega) hw)
 have hrl:(bs.drop (8*(bs.length/8))).length=bs.length%8:=by simp;omega
 have hr8:Ec (bs.drop (8*(bs.length/8)))<128:=by
  have h1:=Gh (bs.drop (8*(bs.length/8)))
  rw [hrl] at h1
  exact Nat.lt_of_lt_of_le h1 (Nat.pow_le_pow_right (n:=2) (j:=7) (by omega) (by omega))
 dsimp only [List.cons_append,List.nil_append] at hS
 generalize hA:Ec (bs.drop (8*(bs.length/8)))=A at*
 generalize hM:bs.length%8=M at*
 have hm8:M<8:=by omega
 have HOR:=AD (Z6 A value width (by omega) hw hv)
 go_enter Tryz.func111,Tryz.ntmps111
 go_wp2_with (first
  | ((with_reducible refine An _ (.load 169 _) ?_);first|(refine Bi AA (AY hS 169 _ rfl _ _ rfl (AH rfl) _ AJ _ (by rfl) ?_);refine AL (by (simp only [Act.put,List.setIfInBounds_toArray,List.set_cons_zero,List.set_cons_succ]);exact rfl) ?_)|(refine Bi AA (Ai hS 169 _ rfl _ _ rfl (AH rfl) _ _ _ _ _ AJ _ (by with_reducible assumption) ?_);refine AL (by (simp only [Act.put,List.setIfInBounds_toArray,List.set_cons_zero,List.set_cons_succ]);exact rfl) ?_)|(refine Bi AA (Aj hS 169 _ rfl _ rfl (AH rfl) _ (by with_reducible assumption) ?_);refine AL (by (simp only [Act.put,List.setIfInBounds_toArray,List.set_cons_zero,List.set_cons_succ]);exact rfl) ?_))|refine V7 ?_;clear hS;intro w hS|((with_reducible refine An _ (.load 3 _) ?_);first|(refine Bi AA (BX hS 3 _ rfl _ _ rfl (AH rfl) _ _ AJ (by omega) ?_);refine AL (by (simp only [Act.put,List.setIfInBounds_toArray,List.set_cons_zero,List.set_cons_succ]);exact rfl) ?_)|(refine Bi AA (AY hS 3 _ rfl _ _ rfl (AH rfl) _ AJ _ (by rfl) ?_);refine AL (by (simp only [Act.put,List.setIfInBounds_toArray,List.set_cons_zero,List.set_cons_succ]);exact rfl) ?_)|(refine Bi AA (Ai hS 3 _ rfl _ _ rfl (AH rfl) _ _ _ _ _ AJ _ (by with_reducible assumption) ?_);refine AL (by (simp only [Act.put,List.setIfInBounds_toArray,List.set_cons_zero,List.set_cons_succ]);exact rfl) ?_)|(refine Bi AA (Aj hS 3 _ rfl _ rfl (AH rfl) _ (by with_reducible assumption) ?_);refine AL (by (simp only [Act.put,List.setIfInBounds_toArray,List.set_cons_zero,List.set_cons_succ]);exact rfl) ?_))|refine V8 ?_;clear hS;intro w hS|((with_reducible refine An _ (.load 35 _) ?_);first|(refine Bi AA (AY hS 35 _ rfl _ _ rfl (AH rfl) _ AJ _ (by rfl) ?_);refine AL (by (simp only [Act.put,List.setIfInBounds_toArray,List.set_cons_zero,List.set_cons_succ]);exact rfl) ?_)|(refine Bi AA (Ai hS 35 _ rfl _ _ rfl (AH rfl) _ _ _ _ _ AJ _ (by with_reducible assumption) ?_);refine AL (by (simp only [Act.put,List.setIfInBounds_toArray,List.set_cons_zero,List.set_cons_succ]);exact rfl) ?_)|(refine Bi AA (Aj hS 35 _ rfl _ rfl (AH rfl) _ (by with_reducible assumption) ?_);refine AL (by (simp only [Act.put,List.setIfInBounds_toArray,List.set_cons_zero,List.set_cons_succ]);exact rfl) ?_))|((refine AS 54 ?_);first|(refine Bi AA (AU (o:=⟨some 54,_,_,_,_,_⟩) hS 35 1 _ rfl 5 1 1 IQ _ _ (by (repeat (first|exact AX.nil|(apply AX.agg;(rfl);(rfl))|(apply AX.one;exact CG;(rfl);(rfl))))) (by rfl) (by decide) (by decide) ?_);clear hS;intro g54 w hS;refine AL (by (simp only [Act.put,List.setIfInBounds_toArray,List.set_cons_zero,List.set_cons_succ]);exact rfl) ?_))|refine WA ?_;clear hS;intro w hS|(first|refine DU ?_|refine C0 ?_|refine Cz ?_|refine ED ?_))
 rw [HOR.out] at hS
 have HN:=AD (show Ec (bs.drop (8*(bs.length/8))++A2 width value)=A*2^width+value by rw [DS,At,DZ _ _ hv,hA])
 have HT:=AD (show (bs.drop (8*(bs.length/8))++A2 width value).length=M+width by rw [List.length_append,At,hrl])
 generalize hT:M+width=T at*
 generalize hN:A*2^width+value=N at*
 generalize hq:bs.length/8=q at*
 have hBl:bs.length=8*q+M:=by omega
 have hX:CI (q+0) (bs++A2 width value)=CI q bs:=Me q bs _ (by omega)
 rw [←hX] at hS
 rw [show ((M:Int)+(width:Int))=((T:Nat):Int) by omega] at hS
 clear hX
 go_loopg [] 4 (fun gk wr=>∃(j:Nat) (ad':Option Addr) (c':Nat),gk+j=4∧8*j≤T∧St W wr (blk g [.slice ad' (q+j) c', .int .u64 (N:Nat), .int .i64 (T-8*j:Nat)]::own 5 1 ad' (q+j) c' (bv (CI (q+j) (bs++A2 width value)))::rs'))
 case atStart=>exact ⟨0,ad,c,rfl,by omega,hS⟩
 case round=>
  clear hS
  obtain ⟨j,ad',c',hj,hjT,hS⟩:=hrel
  generalize hR:T-8*j=R at*
  by_cases h8:8≤R
  ·obtain ⟨r,hr⟩:∃r,R=r+8:=⟨R-8,by omega⟩
   have hb1:IntKind.i64.wrap ((R:Int)-8)=(r:Int):=by simp [IntKind.wrap,IntKind.signed,IntKind.bits];omega
   have hb2:(0:Int)≤(r:Int):=by omega
   have hb3:(r:Int)<64:=by omega
   have HR:=AD hr
   have HP:=AD (show q+j+1≤maxLen∧(q+j+1)*1≤140737488355328 by unfold maxLen;omega)
   clear hr
   have HBy:Hid ((N:Int)/2^r%256=((Ec (((bs++A2 width value).drop (8*(q+j))).take 8):Nat):Int)):=by
    have h1:=KE (bs.drop (8*q)++A2 width value) (8*j) 8 (by rw [HT.out];omega)
    rw [HT.out,HN.out,show T-8*j-8=r by have:=HR.out;omega] at h1
    have h2:(bs++A2 width value).drop (8*(q+j))=(bs.drop (8*q)++A2 width value).drop (8*j):=by
     rw [Nat.mul_add,←List.drop_drop,List.drop_append_of_le_length (by omega)]
    unfold Hid
    rw [h2,h1]
    have h3:((N:Int)/2^r)=((N/2^r:Nat):Int):=by push_cast;rfl
    rw [h3]
    generalize N/2^r=y
    simp
   go_wp2_with (first
    | ((with_reducible refine An _ (.load 169 _) ?_);first|(refine Bi AA (AY hS 169 _ rfl _ _ rfl (AH rfl) _ AJ _ (by rfl) ?_);refine AL (by (simp only [Act.put,List.setIfInBounds_toArray,List.set_cons_zero,List.set_cons_succ]);exact rfl) ?_)|(refine Bi AA (Ai hS 169 _ rfl _ _ rfl (AH rfl) _ _ _ _ _ AJ _ (by with_reducible assumption) ?_);refine AL (by (simp only [Act.put,List.setIfInBounds_toArray,List.set_cons_zero,List.set_cons_succ]);exact rfl) ?_)|(refine Bi AA (Aj hS 169 _ rfl _ rfl (AH rfl) _ (by with_reducible assumption) ?_);refine AL (by (simp only [Act.put,List.setIfInBounds_toArray,List.set_cons_zero,List.set_cons_succ]);exact rfl) ?_))|refine V7 ?_;clear hS;intro w hS|((with_reducible refine An _ (.load 3 _) ?_);first|(refine Bi AA (BX hS 3 _ rfl _ _ rfl (AH rfl) _ _ AJ (by omega) ?_);refine AL (by (simp only [Act.put,List.setIfInBounds_toArray,List.set_cons_zero,List.set_cons_succ]);exact rfl) ?_)|(refine Bi AA (AY hS 3 _ rfl _ _ rfl (AH rfl) _ AJ _ (by rfl) ?_);refine AL (by (simp only [Act.put,List.setIfInBounds_toArray,List.set_cons_zero,List.set_cons_succ]);exact rfl) ?_)|(refine Bi AA (Ai hS 3 _ rfl _ _ rfl (AH rfl) _ _ _ _ _ AJ _ (by with_reducible assumption) ?_);refine AL (by (simp only [Act.put,List.setIfInBounds_toArray,List.set_cons_zero,List.set_cons_succ]);exact rfl) ?_)|(refine Bi AA (Aj hS 3 _ rfl _ rfl (AH rfl) _ (by with_reducible assumption) ?_);refine AL (by (simp only [Act.put,List.setIfInBounds_toArray,List.set_cons_zero,List.set_cons_succ]);exact rfl) ?_))|refine V8 ?_;clear hS;intro w hS|((with_reducible refine An _ (.load 35 _) ?_);first|(refine Bi AA (AY hS 35 _ rfl _ _ rfl (AH rfl) _ AJ _ (by rfl) ?_);refine AL (by (simp only [Act.put,List.setIfInBounds_toArray,List.set_cons_zero,List.set_cons_succ]);exact rfl) ?_)|(refine Bi AA (Ai hS 35 _ rfl _ _ rfl (AH rfl) _ _ _ _ _ AJ _ (by with_reducible assumption) ?_);refine AL (by (simp only [Act.put,List.setIfInBounds_toArray,List.set_cons_zero,List.set_cons_succ]);exact rfl) ?_)|(refine Bi AA (Aj hS 35 _ rfl _ rfl (AH rfl) _ (by with_reducible assumption) ?_);refine AL (by (simp only [Act.put,List.setIfInBounds_toArray,List.set_cons_zero,List.set_cons_succ]);exact rfl) ?_))|((refine AS 54 ?_);first|(refine Bi AA (AU (o:=⟨some 54,_,_,_,_,_⟩) hS 35 1 _ rfl 5 1 1 IQ _ _ (by (repeat (first|exact AX.nil|(apply AX.agg;(rfl);(rfl))|(apply AX.one;exact CG;(rfl);(rfl))))) (by rfl) (by decide) (by decide) ?_);clear hS;intro g54 w hS;refine AL (by (simp only [Act.put,List.setIfInBounds_toArray,List.set_cons_zero,List.set_cons_succ]);exact rfl) ?_))|refine WA ?_;clear hS;intro w hS|(first|refine DU ?_|refine C0 ?_|refine Cz ?_|refine ED ?_))
   refine AQ [17,20] (fun w=>St W w [blk g [.slice ad' (q+j) c', .int .u64 (N:Nat), .int .i64 (R:Nat)]]) AA ?_
   replace hS:=hS.drew
   apply BP 0 Am AA AA AA (fun _ _ _ _ h=>h)
   case hfr=>intro w;go_wp2_with fail;exact ⟨rfl,rfl⟩
   case hd=>rfl
   apply BP 1 Am AA AA AA (fun _ _ _ _ h=>h)
   case hfr=>intro w;go_wp2_with fail;exact ⟨rfl,rfl⟩
   case hd=>rfl
   apply BP 2 Am AA AA AA (fun _ _ _ _ h=>h)
   case hfr=>intro w;go_wp2_with fail;exact ⟨rfl,rfl⟩
   case hd=>rfl
   apply BP 3 Am AA AA AA (fun _ _ _ _ h=>h)
   case hfr=>intro w;go_wp2_with fail;exact ⟨rfl,rfl⟩
   case hd=>rfl
   apply Cb 4 Am AA AA AA (fun _ _ _ _ h=>h) [17,18,19,20] AA (hS.sub AV)
   case hfr=>intro w hS;go_wp2_with (first|(refine Bi AA (AY hS 35 _ rfl _ _ rfl (AH rfl) _ AJ _ (by rfl) ?_);refine AL (by (simp only [Act.put,List.setIfInBounds_toArray,List.set_cons_zero,List.set_cons_succ]);exact rfl) ?_)|(refine Bi AA (Ai hS 35 _ rfl _ _ rfl (AH rfl) _ _ _ _ _ AJ _ (by with_reducible assumption) ?_);refine AL (by (simp only [Act.put,List.setIfInBounds_toArray,List.set_cons_zero,List.set_cons_succ]);exact rfl) ?_)|(refine Bi AA (Aj hS 35 _ rfl _ rfl (AH rfl) _ (by with_reducible assumption) ?_);refine AL (by (simp only [Act.put,List.setIfInBounds_toArray,List.set_cons_zero,List.set_cons_succ]);exact rfl) ?_));exact ⟨rfl,rfl⟩
   case hd=>rfl
   apply BP 5 Am AA AA AA (fun _ _ _ _ h=>h)
   case hfr=>intro w;go_wp2_with fail;exact ⟨rfl,rfl⟩
   case hd=>rfl
   apply BP 6 Am AA AA AA (fun _ _ _ _ h=>h)
   case hfr=>intro w;go_wp2_with fail;exact ⟨rfl,rfl⟩
   case hd=>rfl
   apply BP 7 Am AA AA AA (fun _ _ _ _ h=>h)
   case hfr=>intro w;go_wp2_with fail;exact ⟨rfl,rfl⟩
   case hd=>rfl
   apply Cb 8 Am AA AA AA (fun _ _ _ _ h=>h) [14,15,16,17,18,19,20] AA (hS.sub AV)
   case hfr=>intro w hS;go_wp2_with (first|(refine Bi AA (AY hS 169 _ rfl _ _ rfl (AH rfl) _ AJ _ (by rfl) ?_);refine AL (by (simp only [Act.put,List.setIfInBounds_toArray,List.set_cons_zero,List.set_cons_succ]);exact rfl) ?_)|(refine Bi AA (Ai hS 169 _ rfl _ _ rfl (AH rfl) _ _ _ _ _ AJ _ (by with_reducible assumption) ?_);refine AL (by (simp only [Act.put,List.setIfInBounds_toArray,List.set_cons_zero,List.set_cons_succ]);exact rfl) ?_)|(refine Bi AA (Aj hS 169 _ rfl _ rfl (AH rfl) _ (by with_reducible assumption) ?_);refine AL (by (simp only [Act.put,List.setIfInBounds_toArray,List.set_cons_zero,List.set_cons_succ]);exact rfl) ?_));exact ⟨rfl,rfl⟩
   case hd=>rfl
   apply BP 9 Am AA AA AA (fun _ _ _ _ h=>h)
   case hfr=>intro w;go_wp2_with fail;exact ⟨rfl,rfl⟩
   case hd=>rfl
   apply BP 10 Am AA AA AA (fun _ _ _ _ h=>h)
   case hfr=>intro w;go_wp2_with fail;exact ⟨rfl,rfl⟩
   case hd=>rfl
   apply BP 11 Am AA AA AA (fun _ _ _ _ h=>h)
   case hfr=>intro w;go_wp2_with fail;exact ⟨rfl,rfl⟩
   case hd=>rfl
   apply Cb 12 Am AA AA AA (fun _ _ _ _ h=>h) [13,14,15,16,17,18,19,20] AA (hS.sub AV)
   case hfr=>intro w hS;go_wp2_with (first|(refine Bi AA (BX hS 3 _ rfl _ _ rfl (AH rfl) _ _ AJ (by omega) ?_);refine AL (by (simp only [Act.put,List.setIfInBounds_toArray,List.set_cons_zero,List.set_cons_succ]);exact rfl) ?_)|(refine Bi AA (AY hS 3 _ rfl _ _ rfl (AH rfl) _ AJ _ (by rfl) ?_);refine AL (by (simp only [Act.put,List.setIfInBounds_toArray,List.set_cons_zero,List.set_cons_succ]);exact rfl) ?_)|(refine Bi AA (Ai hS 3 _ rfl _ _ rfl (AH rfl) _ _ _ _ _ AJ _ (by with_reducible assumption) ?_);refine AL (by (simp only [Act.put,List.setIfInBounds_toArray,List.set_cons_zero,List.set_cons_succ]);exact rfl) ?_)|(refine Bi AA (Aj hS 3 _ rfl _ rfl (AH rfl) _ (by with_reducible assumption) ?_);refine AL (by (simp only [Act.put,List.setIfInBounds_toArray,List.set_cons_zero,List.set_cons_succ]);exact rfl) ?_));exact ⟨rfl,rfl⟩
   case hd=>rfl
   apply BP 13 Am AA AA AA (fun _ _ _ _ h=>h)
   case hfr=>intro w;go_wp2_with fail;exact ⟨rfl,rfl⟩
   case hd=>rfl
   apply BP 14 Am AA AA AA (fun _ _ _ _ h=>h)
   case hfr=>intro w;go_wp2_with fail;exact ⟨rfl,rfl⟩
   case hd=>rfl
   apply BP 15 Am AA AA AA (fun _ _ _ _ h=>h)
   case hfr=>intro w;go_wp2_with fail;exact ⟨rfl,rfl⟩
   case hd=>rfl
   refine Aa 16 ?_
   (refine AU (o:=⟨some 54,_,_,_,_,_⟩) hS 35 1 _ rfl 5 1 1 IQ _ _ (by (repeat (first|exact AX.nil|(apply AX.agg;(rfl);(rfl))|(apply AX.one;exact CG;(rfl);(rfl))))) (by rfl) (by decide) (by decide) ?_;clear hS;intro g54 w hS)
   refine ⟨fun _ _=>hS.sub AV,?_⟩
   refine IP (by (simp only [Act.put,List.setIfInBounds_toArray,List.set_cons_zero,List.set_cons_succ]);exact rfl) ?_
   refine Aa 17 ?_
   refine AO hS _ _ 35 rfl _ 1 1 IQ _ _ _ _ rfl AJ _ rfl 1 _ (hS.slBlk (n:=1) AJ (by rfl) (by decide)) (by intro u hu;rw [List.mem_singleton] at hu;rw [hu];rfl) HP.out.1 HP.out.2 ?_;clear hS;intro ad2 c2 w hS
   refine ⟨fun h=>absurd (by decide) h,?_⟩
   refine IP (by (simp only [Act.put,List.setIfInBounds_toArray,List.set_cons_zero,List.set_cons_succ]);exact rfl) ?_
   apply BP 18 Am AA AA AA (fun _ _ _ _ h=>h)
   case hfr=>intro w;go_wp2_with fail;exact ⟨rfl,rfl⟩
   case hd=>rfl
   apply BP 19 Am AA AA AA (fun _ _ _ _ h=>h)
   case hfr=>intro w;go_wp2_with fail;exact ⟨rfl,rfl⟩
   case hd=>rfl
   refine Aa 20 ?_
   (refine Bl hS 35 _ _ rfl _ _ rfl (AH rfl) _ _ AJ _ CG (by rfl) Uq rfl ?_;clear hS;intro w hS)
   refine ⟨fun h=>absurd (by decide) h,?_⟩
   refine AE AA ?_ _
   go_wp2_with (first
    | ((with_reducible refine An _ (.load 169 _) ?_);first|(refine Bi AA (AY hS 169 _ rfl _ _ rfl (AH rfl) _ AJ _ (by rfl) ?_);refine AL (by (simp only [Act.put,List.setIfInBounds_toArray,List.set_cons_zero,List.set_cons_succ]);exact rfl) ?_)|(refine Bi AA (Ai hS 169 _ rfl _ _ rfl (AH rfl) _ _ _ _ _ AJ _ (by with_reducible assumption) ?_);refine AL (by (simp only [Act.put,List.setIfInBounds_toArray,List.set_cons_zero,List.set_cons_succ]);exact rfl) ?_)|(refine Bi AA (Aj hS 169 _ rfl _ rfl (AH rfl) _ (by with_reducible assumption) ?_);refine AL (by (simp only [Act.put,List.setIfInBounds_toArray,List.set_cons_zero,List.set_cons_succ]);exact rfl) ?_))|refine V7 ?_;clear hS;intro w hS|((with_reducible refine An _ (.load 3 _) ?_);first|(refine Bi AA (BX hS 3 _ rfl _ _ rfl (AH rfl) _ _ AJ (by omega) ?_);refine AL (by (simp only [Act.put,List.setIfInBounds_toArray,List.set_cons_zero,List.set_cons_succ]);exact rfl) ?_)|(refine Bi AA (AY hS 3 _ rfl _ _ rfl (AH rfl) _ AJ _ (by rfl) ?_);refine AL (by (simp only [Act.put,List.setIfInBounds_toArray,List.set_cons_zero,List.set_cons_succ]);exact rfl) ?_)|(refine Bi AA (Ai hS 3 _ rfl _ _ rfl (AH rfl) _ _ _ _ _ AJ _ (by with_reducible assumption) ?_);refine AL (by (simp only [Act.put,List.setIfInBounds_toArray,List.set_cons_zero,List.set_cons_succ]);exact rfl) ?_)|(refine Bi AA (Aj hS 3 _ rfl _ rfl (AH rfl) _ (by with_reducible assumption) ?_);refine AL (by (simp only [Act.put,List.setIfInBounds_toArray,List.set_cons_zero,List.set_cons_succ]);exact rfl) ?_))|refine V8 ?_;clear hS;intro w hS|((with_reducible refine An _ (.load 35 _) ?_);first|(refine Bi AA (AY hS 35 _ rfl _ _ rfl (AH rfl) _ AJ _ (by rfl) ?_);refine AL (by (simp only [Act.put,List.setIfInBounds_toArray,List.set_cons_zero,List.set_cons_succ]);exact rfl) ?_)|(refine Bi AA (Ai hS 35 _ rfl _ _ rfl (AH rfl) _ _ _ _ _ AJ _ (by with_reducible assumption) ?_);refine AL (by (simp only [Act.put,List.setIfInBounds_toArray,List.set_cons_zero,List.set_cons_succ]);exact rfl) ?_)|(refine Bi AA (Aj hS 35 _ rfl _ rfl (AH rfl) _ (by with_reducible assumption) ?_);refine AL (by (simp only [Act.put,List.setIfInBounds_toArray,List.set_cons_zero,List.set_cons_succ]);exact rfl) ?_))|((refine AS 54 ?_);first|(refine Bi AA (AU (o:=⟨some 54,_,_,_,_,_⟩) hS 35 1 _ rfl 5 1 1 IQ _ _ (by (repeat (first|exact AX.nil|(apply AX.agg;(rfl);(rfl))|(apply AX.one;exact CG;(rfl);(rfl))))) (by rfl) (by decide) (by decide) ?_);clear hS;intro g54 w hS;refine AL (by (simp only [Act.put,List.setIfInBounds_toArray,List.set_cons_zero,List.set_cons_succ]);exact rfl) ?_))|refine WA ?_;clear hS;intro w hS|(first|refine DU ?_|refine C0 ?_|refine Cz ?_|refine ED ?_))
   go_roundg (gk-1)
   case measure=>have:=HR.out;omega
   case rel=>
    refine ⟨j+1,ad2,c2,by omega,by have:=HR.out;omega,?_⟩
    rw [show T-8*(j+1)=r by have:=HR.out;omega,←Nat.add_assoc q j 1,P2,Rr,show (bv [Ec (((bs++A2 width value).drop (8*(q+j))).take 8)]=[Value.int .u8 ((N:Int)/2^r%256)]) by rw [HBy.out];rfl]
    exact hS.sub AV
  have hlen:(bs++A2 width value).length=8*(q+j)+R:=by rw [List.length_append,At];omega
  have hd1:=AD (show (bs++A2 width value).length/8=q+j by omega)
  have hd2:=AD (show (bs++A2 width value).length%8=R by omega)
  have hval:Hid (Ec ((bs++A2 width value).drop (8*(q+j)))=N%2^R):=by
   have h1:=KE (bs.drop (8*q)++A2 width value) (8*j) R (by rw [HT.out];omega)
   rw [HT.out,HN.out,show T-8*j-R=0 by omega,Nat.pow_zero,Nat.div_one,List.take_of_length_le (by rw [List.length_drop,HT.out];omega)] at h1
   unfold Hid
   rw [Nat.mul_add,←List.drop_drop,List.drop_append_of_le_length (by omega)]
   exact h1
  have hNl:N<18446744073709551616:=by
   have h1:=Gh (bs.drop (8*q)++A2 width value)
   rw [HN.out,HT.out] at h1
   exact Nat.lt_of_lt_of_le h1 (Mh T 64 (by omega))
  have HAND:=AD (Wc N R hNl (by omega))
  clear hlen
  go_wp2_with (first
   | ((with_reducible refine An _ (.load 169 _) ?_);first|(refine Bi AA (AY hS 169 _ rfl _ _ rfl (AH rfl) _ AJ _ (by rfl) ?_);refine AL (by (simp only [Act.put,List.setIfInBounds_toArray,List.set_cons_zero,List.set_cons_succ]);exact rfl) ?_)|(refine Bi AA (Ai hS 169 _ rfl _ _ rfl (AH rfl) _ _ _ _ _ AJ _ (by with_reducible assumption) ?_);refine AL (by (simp only [Act.put,List.setIfInBounds_toArray,List.set_cons_zero,List.set_cons_succ]);exact rfl) ?_)|(refine Bi AA (Aj hS 169 _ rfl _ rfl (AH rfl) _ (by with_reducible assumption) ?_);refine AL (by (simp only [Act.put,List.setIfInBounds_toArray,List.set_cons_zero,List.set_cons_succ]);exact rfl) ?_))|refine V7 ?_;clear hS;intro w hS|((with_reducible refine An _ (.load 3 _) ?_);first|(refine Bi AA (BX hS 3 _ rfl _ _ rfl (AH rfl) _ _ AJ (by omega) ?_);refine AL (by (simp only [Act.put,List.setIfInBounds_toArray,List.set_cons_zero,List.set_cons_succ]);exact rfl) ?_)|(refine Bi AA (AY hS 3 _ rfl _ _ rfl (AH rfl) _ AJ _ (by rfl) ?_);refine AL (by (simp only [Act.put,List.setIfInBounds_toArray,List.set_cons_zero,List.set_cons_succ]);exact rfl) ?_)|(refine Bi AA (Ai hS 3 _ rfl _ _ rfl (AH rfl) _ _ _ _ _ AJ _ (by with_reducible assumption) ?_);refine AL (by (simp only [Act.put,List.setIfInBounds_toArray,List.set_cons_zero,List.set_cons_succ]);exact rfl) ?_)|(refine Bi AA (Aj hS 3 _ rfl _ rfl (AH rfl) _ (by with_reducible assumption) ?_);refine AL (by (simp only [Act.put,List.setIfInBounds_toArray,List.set_cons_zero,List.set_cons_succ]);exact rfl) ?_))|refine V8 ?_;clear hS;intro w hS|((with_reducible refine An _ (.load 35 _) ?_);first|(refine Bi AA (AY hS 35 _ rfl _ _ rfl (AH rfl) _ AJ _ (by rfl) ?_);refine AL (by (simp only [Act.put,List.setIfInBounds_toArray,List.set_cons_zero,List.set_cons_succ]);exact rfl) ?_)|(refine Bi AA (Ai hS 35 _ rfl _ _ rfl (AH rfl) _ _ _ _ _ AJ _ (by with_reducible assumption) ?_);refine AL (by (simp only [Act.put,List.setIfInBounds_toArray,List.set_cons_zero,List.set_cons_succ]);exact rfl) ?_)|(refine Bi AA (Aj hS 35 _ rfl _ rfl (AH rfl) _ (by with_reducible assumption) ?_);refine AL (by (simp only [Act.put,List.setIfInBounds_toArray,List.set_cons_zero,List.set_cons_succ]);exact rfl) ?_))|((refine AS 54 ?_);first|(refine Bi AA (AU (o:=⟨some 54,_,_,_,_,_⟩) hS 35 1 _ rfl 5 1 1 IQ _ _ (by (repeat (first|exact AX.nil|(apply AX.agg;(rfl);(rfl))|(apply AX.one;exact CG;(rfl);(rfl))))) (by rfl) (by decide) (by decide) ?_);clear hS;intro g54 w hS;refine AL (by (simp only [Act.put,List.setIfInBounds_toArray,List.set_cons_zero,List.set_cons_succ]);exact rfl) ?_))|refine WA ?_;clear hS;intro w hS|(first|refine DU ?_|refine C0 ?_|refine Cz ?_|refine ED ?_))
  refine AQ [13] (fun w=>St W w [blk g [.slice ad' (q+j) c', .int .u64 (N:Nat), .int .i64 (R:Nat)]]) AA ?_
  replace hS:=hS.drew
  apply BP 0 Am AA AA AA (fun _ _ _ _ h=>h)
  case hfr=>intro w;go_wp2_with fail;exact ⟨rfl,rfl⟩
  case hd=>rfl
  apply BP 1 Am AA AA AA (fun _ _ _ _ h=>h)
  case hfr=>intro w;go_wp2_with fail;exact ⟨rfl,rfl⟩
  case hd=>rfl
  apply BP 2 Am AA AA AA (fun _ _ _ _ h=>h)
  case hfr=>intro w;go_wp2_with fail;exact ⟨rfl,rfl⟩
  case hd=>rfl
  apply Cb 3 Am AA AA AA (fun _ _ _ _ h=>h) [10,11,12,13] AA (hS.sub AV)
  case hfr=>intro w hS;go_wp2_with (first|(refine Bi AA (AY hS 169 _ rfl _ _ rfl (AH rfl) _ AJ _ (by rfl) ?_);refine AL (by (simp only [Act.put,List.setIfInBounds_toArray,List.set_cons_zero,List.set_cons_succ]);exact rfl) ?_)|(refine Bi AA (Ai hS 169 _ rfl _ _ rfl (AH rfl) _ _ _ _ _ AJ _ (by with_reducible assumption) ?_);refine AL (by (simp only [Act.put,List.setIfInBounds_toArray,List.set_cons_zero,List.set_cons_succ]);exact rfl) ?_)|(refine Bi AA (Aj hS 169 _ rfl _ rfl (AH rfl) _ (by with_reducible assumption) ?_);refine AL (by (simp only [Act.put,List.setIfInBounds_toArray,List.set_cons_zero,List.set_cons_succ]);exact rfl) ?_));exact ⟨rfl,rfl⟩
  case hd=>rfl
  apply BP 4 Am AA AA AA (fun _ _ _ _ h=>h)
  case hfr=>intro w;go_wp2_with fail;exact ⟨rfl,rfl⟩
  case hd=>rfl
  apply BP 5 Am AA AA AA (fun _ _ _ _ h=>h)
  case hfr=>intro w;go_wp2_with fail;exact ⟨rfl,rfl⟩
  case hd=>rfl
  apply BP 6 Am AA AA AA (fun _ _ _ _ h=>h)
  case hfr=>intro w;go_wp2_with fail;exact ⟨rfl,rfl⟩
  case hd=>rfl
  apply Cb 7 Am AA AA AA (fun _ _ _ _ h=>h) [8,9,10,11,12,13] AA (hS.sub AV)
  case hfr=>intro w hS;go_wp2_with (first|(refine Bi AA (BX hS 3 _ rfl _ _ rfl (AH rfl) _ _ AJ (by omega) ?_);refine AL (by (simp only [Act.put,List.setIfInBounds_toArray,List.set_cons_zero,List.set_cons_succ]);exact rfl) ?_)|(refine Bi AA (AY hS 3 _ rfl _ _ rfl (AH rfl) _ AJ _ (by rfl) ?_);refine AL (by (simp only [Act.put,List.setIfInBounds_toArray,List.set_cons_zero,List.set_cons_succ]);exact rfl) ?_)|(refine Bi AA (Ai hS 3 _ rfl _ _ rfl (AH rfl) _ _ _ _ _ AJ _ (by with_reducible assumption) ?_);refine AL (by (simp only [Act.put,List.setIfInBounds_toArray,List.set_cons_zero,List.set_cons_succ]);exact rfl) ?_)|(refine Bi AA (Aj hS 3 _ rfl _ rfl (AH rfl) _ (by with_reducible assumption) ?_);refine AL (by (simp only [Act.put,List.setIfInBounds_toArray,List.set_cons_zero,List.set_cons_succ]);exact rfl) ?_));exact ⟨rfl,rfl⟩
  case hd=>rfl
  apply BP 8 Am AA AA AA (fun _ _ _ _ h=>h)
  case hfr=>intro w;go_wp2_with fail;exact ⟨rfl,rfl⟩
  case hd=>rfl
  apply BP 9 Am AA AA AA (fun _ _ _ _ h=>h)
  case hfr=>intro w;go_wp2_with fail;exact ⟨rfl,rfl⟩
  case hd=>rfl
  apply BP 10 Am AA AA AA (fun _ _ _ _ h=>h)
  case hfr=>intro w;go_wp2_with fail;exact ⟨rfl,rfl⟩
  case hd=>rfl
  apply BP 11 Am AA AA AA (fun _ _ _ _ h=>h)
  case hfr=>intro w;go_wp2_with fail;exact ⟨rfl,rfl⟩
  case hd=>rfl
  apply BP 12 Am AA AA AA (fun _ _ _ _ h=>h)
  case hfr=>intro w;go_wp2_with fail;exact ⟨rfl,rfl⟩
  case hd=>rfl
  refine Aa 13 ?_
  (refine Bl hS 169 _ _ rfl _ _ rfl (AH rfl) _ _ AJ _ CG (by rfl) Uq rfl ?_;clear hS;intro w hS)
  refine ⟨fun h=>absurd (by decide) h,?_⟩
  refine AE AA ?_ _
  go_end0
  refine ⟨rfl,St.close (ad',c') ?_⟩
  simp only [List.cons_append,List.nil_append]
  rw [HAND.out] at hS
  rw [hd1.out,hd2.out,hval.out]
  exact hS.sub AV
end Go.Proofs.YtohacgmhmbijmaaGreatDoor
/- And, or, exclusive or of ints that are not negative. -/
namespace Go
open Go.RowKit
theorem toNat_i64(a:Nat)(ha:a<9223372036854775808):(BitVec.ofInt 64 (a:Int)).toNat=a:=by
  rw [BitVec.ofInt_natCast,BitVec.toNat_ofNat];exact Nat.mod_eq_of_lt (by omega)
theorem wrap_i64_nat(x:Nat)(h:x<9223372036854775808):IntKind.i64.wrap (x:Int)=(x:Int):=by
  simp [IntKind.wrap,IntKind.signed,IntKind.bits];omega
theorem bits_and_i64_nat(a b:Nat)(ha:a<9223372036854775808)(hb:b<9223372036854775808):bits .and .i64 (a:Int) (b:Int)=((a&&&b:Nat):Int):=by
  show IntKind.i64.wrap ((BitVec.ofInt 64 (a:Int)&&&BitVec.ofInt 64 (b:Int)).toNat:Int)=_
  rw [BitVec.toNat_and,toNat_i64 a ha,toNat_i64 b hb]
  exact wrap_i64_nat _ (Nat.lt_of_lt_of_le (Nat.and_lt_two_pow (n:=63) _ (by omega)) (by decide))
theorem bits_or_i64_nat(a b:Nat)(ha:a<9223372036854775808)(hb:b<9223372036854775808):bits .or .i64 (a:Int) (b:Int)=((a|||b:Nat):Int):=by
  show IntKind.i64.wrap ((BitVec.ofInt 64 (a:Int)|||BitVec.ofInt 64 (b:Int)).toNat:Int)=_
  rw [BitVec.toNat_or,toNat_i64 a ha,toNat_i64 b hb]
  exact wrap_i64_nat _ (Nat.lt_of_lt_of_le (Nat.or_lt_two_pow (n:=63) (by omega) (by omega)) (by decide))
/-- Two to a small power, reckoned as ints are. -/
theorem pow_i64(k:Nat)(h:k<63):wrap64 ((2:Int)^k)=((2^k:Nat):Int):=by
  have h1:2^k≤2^62:=Nat.pow_le_pow_right (by omega) (by omega)
  rw [show (2:Int)^k=((2^k:Nat):Int) by push_cast;rfl]
  generalize 2^k=x at h1
  unfold wrap64
  omega
theorem mask_i64(k:Nat)(h:k<63):wrap64 (wrap64 ((2:Int)^k)-1)=((2^k-1:Nat):Int):=by
  have h1:2^k≤2^62:=Nat.pow_le_pow_right (by omega) (by omega)
  have h0:=Nat.two_pow_pos k
  rw [pow_i64 k h]
  generalize 2^k=x at h1 h0
  unfold wrap64
  omega
end Go
namespace Go.Proofs.YtohacgmhmbijmaaGreatDoor
attribute [local irreducible] Region.wanted
open Go.RowKit
set_option linter.unusedVariables false
set_option maxRecDepth 100000
set_option maxHeartbeats 8000000
theorem Wg(a0:Option Addr)(n0 c0:Nat)(w:World):(Instr.build 184 #[(0, .slice a0 n0 c0)]).run Tryz.prog w= .ok (.agg #[.slice a0 n0 c0, .int .i64 0]) w:=by kernel_rfl
def rd(g:Nat)(ad:Option Addr)(n c i:Nat):Au:=blk g [.slice ad n c, .int .i64 (i:Nat)]
theorem LH(w0:World)(ad:Option Addr)(n c:Nat):Calls Tryz.prog 87 #[.slice ad n c] w0 fun e w=>∃g,e= .returned (.pointer (some ⟨g,0,none⟩))∧St w0 w [rd g ad n c 0]:=by
 have hS:=St.start w0
 go_enter Tryz.func87,Tryz.ntmps87
 repeat' (first
  | refine X0 ?_|(refine AS 4 ?_);(refine As AA (V.build (vs:=[(0,_)]) rfl (Wg _ _ _)) ?_;go_step)|(refine AS 5 ?_);(refine Ag ?_;apply CP (o:=⟨some 5,_,_,_,_,_⟩) hS 184 _ rfl _ rfl;clear hS;intro g5 w hS;refine AB ?_;go_step)|refine AG ?_;go_step|fail)
 go_ret
 exact ⟨_,rfl,hS⟩
theorem J7(w0:World)(g n c at_:Nat)(ad:Option Addr)(c0:w0.cell? ⟨g,0,none⟩=some (.slice ad n c))(c1:w0.cell? ⟨g,1,none⟩=some (.int .i64 (at_:Nat)))(hn:n≤1000000000000000000)(ha:at_≤8*n):
 Calls Tryz.prog 89 #[.pointer (some ⟨g,0,none⟩)] w0 fun e w=>e= .returned (.int .i64 ((8*n-at_:Nat):Int))∧Al w0 w:=by
 have hS:=St.start w0
 go_enter Tryz.func89,Tryz.ntmps89
 repeat' (first
  | refine X8 ?_|refine AG ?_;go_step|fail)
 refine AQ [] (fun w=>St w0 w []) AA ?_
 replace hS:=hS.drew
 focus
  refine Ab 0 ?_
  refine Bf 1 BU (V.nilCheck rfl) ?_;go_step
  refine Bf 2 BU (V.fieldAddr Qt rfl BO) ?_;go_step
  apply Cb 3 Am AA AA AA Ch [4,5,10,11] AA (hS.sub AV)
  case hfr=>intro w hS;((refine Ag ?_;apply Aj hS 35 _ rfl _ rfl (AH rfl) _;(case hc=>with_reducible assumption);refine AB ?_;go_step));refine wpList_nil ?_;exact ⟨rfl,rfl⟩
  case hd=>rfl
  refine Bf 4 BU (V.len Tryz.underlying35 rfl) ?_;go_step
  refine YM 5 ?_
  refine Ab 6 ?_
  refine Bf 7 BU (V.nilCheck rfl) ?_;go_step
  refine Bf 8 BU (V.fieldAddr JT rfl BO) ?_;go_step
  refine WZ 9 [10,11] ?_
  (refine Bo 10 (.int _ (((8*n-at_:Nat):Int))) Am AA AA AA Ch (V.as (V.subI rfl rfl (by omega)) (by omega)) AA ?_)
  go_step
  refine Ab 11 ?_
  refine AE AA ?_ _
 repeat' (first
  | refine AG ?_;go_step|fail)
 go_ret
 exact ⟨rfl,hS.1⟩
def FT(l:List Nat)(i:Nat):Nat:=l.getD (i/8) 0/2^(7-i%8)%2
theorem QG(l:List Nat)(i:Nat)(h:i<8*l.length):(BK l)[i]? =some (FT l i==1):=QH l i h
def BF(l:List Nat)(i m:Nat):Nat:=Ec (((BK l).drop i).take m)
theorem Gg(l:List Nat)(i m:Nat)(h:i+m<8*l.length):BF l i (m+1)=2*BF l i m+FT l (i+m):=by
 unfold BF
 rw [List.take_add_one,List.getElem?_drop,QG _ _ h]
 simp only [Option.toList_some]
 rw [Hl]
 have:FT l (i+m)<2:=Nat.mod_lt _ (by omega)
 congr 1
 rcases (show FT l (i+m)=0∨FT l (i+m)=1 by omega) with h|h<;>rw [h]<;>rfl
theorem KC(l:List Nat)(i m:Nat):BF l i m<2^m:=by
 unfold BF
 refine Nat.lt_of_lt_of_le (Gh _) (Nat.pow_le_pow_right (by omega) ?_)
 simp;omega
theorem Ud(N b:Nat)(hN:N<4611686018427387904)(hb:b<2):bits .or .i64 (IntKind.i64.wrap ((N:Int)*2^1)) (b:Int)=((2*N+b:Nat):Int):=by
 have e1:IntKind.i64.wrap ((N:Int)*2^1)=((2*N:Nat):Int):=by rw [show ((N:Int)*2^1)=((2*N:Nat):Int) by push_cast;omega];exact wrap_i64_nat _ (by omega)
 rw [e1,bits_or_i64_nat _ _ (by omega) (by omega)]
 congr 1
 rw [show 2*N=2^1*N by omega]
 exact (Nat.two_pow_add_eq_or_of_lt (i:=1) (by omega) N).symm
theorem Q6(N b:Nat)(hN:N<4611686018427387904)(hb:b<2):bits .or .i64 ((N:Int)*2^1) (b:Int)=((2*N+b:Nat):Int):=by
 have:=Ud N b hN hb
 rwa [IntWalk.i64_in _ (by omega)] at this
theorem Wd:∀b:Nat,b<256→bits .and .u8 (b:Int) 1=((b%2:Nat):Int):=by decide+kernel
theorem Wf(l:List Nat)(i:Nat)(hl:∀x∈l,x<256):bits .and .u8 (((l.getD (i/8) 0:Nat):Int)/2^(7-i%8)) 1=((FT l i:Nat):Int):=by
 have h1:l.getD (i/8) 0<256:=by
  by_cases h:i/8<l.length
  ·have:=hl _ (List.getElem_mem h);simpa [List.getD,h] using this
  simp [List.getD,List.getElem?_eq_none (show l.length≤i/8 by omega)]
 have h2:l.getD (i/8) 0/2^(7-i%8)<256:=Nat.lt_of_le_of_lt (Nat.div_le_self _ _) h1
 have e:((l.getD (i/8) 0:Nat):Int)/2^(7-i%8)=((l.getD (i/8) 0/2^(7-i%8):Nat):Int):=by push_cast;rfl
 rw [e,Wd _ h2]
 rfl
theorem Rq(a0:Option Nat)(a1:Option Nat)(w:World):(Instr.build 202 #[(0, .map a0),(1, .map a1)]).run Tryz.prog w= .ok (.agg #[.map a0, .map a1]) w:=by kernel_rfl
theorem IN(m0:Int)(m1:Int)(w:World):(Instr.build 206 #[(0, .int .i64 m0),(1, .int .i64 m1)]).run Tryz.prog w= .ok (.agg #[.int .i64 m0, .int .i64 m1]) w:=by kernel_rfl
def wv(s:Int)(y:Nat×Nat):Value:= .agg #[.int .i64 s, .int .i64 (y.1:Int), .int .i64 (y.2:Int)]
def Gl(L:List (Int×Nat×Nat))(s:Int):Option Value:=(symW L s).map (wv s)
def GZ(L:List (Int×Nat×Nat))(p:Int×Int):Option Value:=(codW L p).map (Value.int .i64)
theorem Sk(L:List (Int×Nat×Nat))(s:Int)(l c:Nat):(fun j=>if j=s then some (Value.agg ([s,(l:Int),(c:Int)].map (Value.int .i64)).toArray) else Gl L j)=Gl (L++[(s,l,c)]):=by
 funext j
 unfold Gl
 rw [Sn]
 by_cases h:j=s
 ·rw [if_pos h,if_pos h,h];rfl
 rw [if_neg h,if_neg h]
theorem R3(L:List (Int×Nat×Nat))(s:Int)(l c:Nat):(fun j=>if j=((l:Int),(c:Int)) then some (Value.int .i64 s) else GZ L j)=GZ (L++[(s,l,c)]):=by
 funext j
 unfold GZ
 rw [R5]
 by_cases h:j=((l:Int),(c:Int))
 ·rw [if_pos h,if_pos h];rfl
 rw [if_neg h,if_neg h]
def Ju(g:Nat)(L:List (Int×Nat×Nat)):Au:=Zk fun x:Nat×Nat=>[blk g [.map (some x.1), .map (some x.2)],mp ik x.1 (Gl L),mp pk x.2 (GZ L)]
theorem Hh(w0:World)(C S:List Int)(ad:Option Addr)(n c:Nat)(hC:Ap C 16)(hv:Sl w0 1 (.slice ad n c) n (S.map (Value.int .i64)))(hn:n≤9223372036854775807)(hok:BA C S=0):
 Calls Tryz.prog 118 #[tv C (.slice ad n c)] w0 fun e w=>∃g,e= .returned (.pointer (some ⟨g,0,none⟩))∧St w0 w [Ju g (Bu C S)]:=by
 have hSl:S.length=n:=by have:=hv.1;simpa using this
 have hn256:n≤256:=by have:=(ET hok).2.2.1;omega
 obtain ⟨L,hL⟩:∃L,Bu C S=L:=⟨_,rfl⟩
 have HL:=AD hL
 have HLl:Hid (L.length=n):=AD (by rw [←hL,NH _ _ (ET hok).2.1,hSl])
 have HOk:=AD hok
 clear hSl hL hok
 have hS:=St.start w0
 go_enter Tryz.func118,Tryz.ntmps118
 repeat' (first
  | (refine A3 134 ?_);refine A4 AA Tryz.call134 (O0 _ C S ad n c hC (hv.ext hS.1) hn HOk.out) ?_;rintro e w ⟨a2,c2,rfl,hS2⟩;rw [HL.out] at hS2;replace hS:=hS.call1 hS2;clear hS2;refine Ae ?_;go_step|refine X0 ?_|(refine AS 8 ?_);(refine As AA (V.build (vs:=[(0,_),(1,_)]) rfl (Rq _ _)) ?_;go_step)|(with_reducible refine An _ (.call ⟨.builtin .len,_,_⟩) ?_);(refine As AA (V.len Tryz.underlying204 rfl) ?_;go_step)|refine ZX 1 ?_;clear hS;intro g1 w hS|(refine AS 6 ?_);(refine Ag ?_;apply FD (o:=⟨some 6,_,_,_,_,_⟩) ik hS 199 rfl;clear hS;intro g6 w hS;refine AB ?_;go_step)|(refine AS 7 ?_);(refine Ag ?_;apply FD (o:=⟨some 7,_,_,_,_,_⟩) pk hS 200 rfl;clear hS;intro g7 w hS;refine AB ?_;go_step)|(refine AS 9 ?_);(refine Ag ?_;apply CP (o:=⟨some 9,_,_,_,_,_⟩) hS 202 _ rfl _ rfl;clear hS;intro g9 w hS;refine AB ?_;go_step)|refine LU ?_|refine AG ?_;go_step|fail)
 go_loopg [13] n (fun gk kv w=>∃(i:Nat),gk+i=n∧kv= .int .i64 i∧St w0 w [own 197 3 a2 n c2 ((Rc L).map (Value.int .i64)),blk g9 [.map (some g6), .map (some g7)],mp ik g6 (Gl (L.take i)),mp pk g7 (GZ (L.take i))])
 case atStart=>exact ⟨0,rfl,rfl,(by rw [show Gl (L.take 0)=fun _=>none from rfl,show GZ (L.take 0)=fun _=>none from rfl];exact hS.sub AV)⟩
 case round=>
  clear hS
  obtain ⟨i,hi,rfl,hS⟩:=hrel
  by_cases hlt:i<n
  ·obtain ⟨b2,rfl⟩:=CE hS AJ (by omega)
   obtain ⟨⟨s,l,k⟩,hx⟩:∃x,L[i]? =some x:=⟨_,List.getElem?_eq_getElem (by rw [HLl.out];exact hlt)⟩
   have hseg:=Rd L i _ hx
   dsimp only at hseg
   have ht:L.take (i+1)=L.take i++[(s,l,k)]:=by rw [List.take_add_one,hx];rfl
   have H1:=AD (Sk (L.take i) s l k)
   have H2:=AD (R3 (L.take i) s l k)
   rw [←ht] at H1 H2
   clear hx ht
   repeat' (first
    | refine X2 ?_|(refine AS 15 ?_);(refine As AA (V.indexSl Tryz.underlying204 Zz rfl rfl BI (by omega) rfl BO) ?_;go_step)|(with_reducible refine An _ (.load 197 _) ?_);(refine Ag ?_;apply Gt hS 197 _ rfl _ _ rfl 3 (AP rfl) _ _ _ _ _;(case hp=>exact AJ);(case hi=>omega);(case hl'=>with_reducible assumption);refine AB ?_;go_step)|refine Yq 5 ?_;clear hS;intro g5 w hS|refine Yv ?_;clear hS;intro w hS|refine AG ?_;go_step|fail)
   refine AQ [7] (fun w=>St w0 w [blk g5 ([s,(l:Int),(k:Int)].map (Value.int .i64)),blk g9 [.map (some g6), .map (some g7)]]) AA ?_
   replace hS:=hS.drew
   focus
    refine Ab 0 ?_
    refine Bf 1 BU (V.nilCheck rfl) ?_;go_step
    refine Bf 2 BU (V.fieldAddr MV rfl BO) ?_;go_step
    apply Cb 3 Am AA AA AA Ch [7] AA (hS.sub AV)
    case hfr=>intro w hS;((refine Ag ?_;apply AY hS 199 _ rfl _ _ rfl (AH rfl) _;(case hp=>exact AJ);(case hc=>rfl);refine AB ?_;go_step));refine wpList_nil ?_;exact ⟨rfl,rfl⟩
    case hd=>rfl
    refine Bf 4 BU (V.fieldAddr Qu rfl BO) ?_;go_step
    refine Y7 5 [7] ?_
    apply Cb 6 Am AA AA AA Ch [7] AA (hS.sub AV)
    case hfr=>intro w hS;((refine Ag ?_;apply Di hS 197 _ rfl _ rfl 3 (AP rfl) _;(case hp=>exact AJ);(case hn=>rfl);refine AB ?_;go_step));refine wpList_nil ?_;exact ⟨rfl,rfl⟩
    case hd=>rfl
    refine Aa 7 ?_
    (refine Dt (enc:=ik) hS 199 _ _ _ rfl _ rfl _ rfl Tryz.underlying199 (CK Tryz.underlying3) _ AJ _ (by (first|exact DI.int rfl|exact DI.bool rfl|exact DI.slice rfl|exact DI.pointer rfl|exact DI.string rfl|exact DI.map rfl|exact DI.func rfl|exact DI.agg rfl)) rfl ?_;clear hS;intro w hS)
    refine ⟨fun h=>absurd (by decide) h,?_⟩
    refine AE AA ?_ _
   all_goals
    repeat' (first
     | refine AG ?_;go_step|fail)
    refine AQ [11] (fun w=>St w0 w [blk g5 ([s,(l:Int),(k:Int)].map (Value.int .i64)),blk g9 [.map (some g6), .map (some g7)]]) AA ?_
    replace hS:=hS.drew
    focus
     refine Ab 0 ?_
     refine Bf 1 BU (V.nilCheck rfl) ?_;go_step
     refine Bf 2 BU (V.fieldAddr MW rfl BO) ?_;go_step
     apply Cb 3 Am AA AA AA Ch [11] AA (hS.sub AV)
     case hfr=>intro w hS;((refine Ag ?_;apply AY hS 200 _ rfl _ _ rfl (AH rfl) _;(case hp=>exact AJ);(case hc=>rfl);refine AB ?_;go_step));refine wpList_nil ?_;exact ⟨rfl,rfl⟩
     case hd=>rfl
     refine Bf 4 BU (V.fieldAddr Qv rfl BO) ?_;go_step
     refine Y7 5 [8,11] ?_
     refine Bf 6 BU (V.fieldAddr Qw rfl BO) ?_;go_step
     refine Y7 7 [8,11] ?_
     refine Bf 8 BU (V.build (vs:=[(0,_),(1,_)]) rfl (IN _ _)) ?_;go_step
     refine Bf 9 BU (V.fieldAddr Qu rfl BO) ?_;go_step
     refine Y7 10 [11] ?_
     refine Aa 11 ?_
     (refine Dt (enc:=pk) hS 200 _ _ _ rfl _ rfl (_,_) rfl Tryz.underlying200 (FZ Tryz.underlying206 Tryz.underlying3 EL) _ AJ _ (by (first|exact DI.int rfl|exact DI.bool rfl|exact DI.slice rfl|exact DI.pointer rfl|exact DI.string rfl|exact DI.map rfl|exact DI.func rfl|exact DI.agg rfl)) rfl ?_;clear hS;intro w hS)
     refine ⟨fun h=>absurd (by decide) h,?_⟩
     refine AE AA ?_ _
    all_goals
     repeat' (first
      | refine X1 ?_|refine X7 ?_|refine AG ?_;go_step|fail)
     go_roundg (gk-1)
     case measure=>omega
     case rel=>
      refine ⟨i+1,by omega,by go_num,?_⟩
      rw [←H1.out,←H2.out]
      exact hS.sub AV
  obtain rfl:i=n:=by omega
  rw [show L.take i=L by rw [←HLl.out];exact List.take_length] at hS
  repeat' (first
   | refine X0 ?_|refine X2 ?_|refine AG ?_;go_step|fail)
  go_ret
  refine ⟨g9,rfl,St.close (g6,g7) ?_⟩
  rw [HL.out]
  exact hS.sub AV
def wb(L:List (Int×Nat×Nat))(s:Int):List Bool:=match symW L s with
 | some y=>A2 y.1 y.2
 | none=>[]
theorem Jv(W w0:World)(rs rs' rs2:List Au)(g g2:Nat)(L:List (Int×Nat×Nat))(bs:List Bool)(s:Int)(hL:Ci L)(hS:St W w0 rs)(hp:AT (Ju g L) rs rs')(hp2:AT (wr g2 bs) rs' rs2)(hb:bs.length≤1000000000000):
 Calls Tryz.prog 110 #[.pointer (some ⟨g,0,none⟩), .pointer (some ⟨g2,0,none⟩), .int .i64 s] w0 fun e w=>e= .returned (.bool (symW L s).isSome)∧St W w (Ju g L::wr g2 (bs++wb L s)::rs2):=by
 obtain ⟨⟨m1,m2⟩,hS⟩:=(hS.pull hp).open
 dsimp only [List.cons_append,List.nil_append] at hS
 have HG:=AD hL
 clear hL
 have hp3:AT (wr g2 bs) (blk g [.map (some m1), .map (some m2)]::mp ik m1 (Gl L)::mp pk m2 (GZ L)::rs') (blk g [.map (some m1), .map (some m2)]::mp ik m1 (Gl L)::mp pk m2 (GZ L)::rs2):= .tail (.tail (.tail hp2))
 cases hs:symW L s with
 | none=>
   have hf:Gl L s=none:=by unfold Gl;rw [hs];rfl
   have HB:=AD (show wb L s=[] by unfold wb;rw [hs])
   clear hs
   go_enter Tryz.func110,Tryz.ntmps110
   repeat' (first
    | refine X0 ?_|refine Ze ?_|(with_reducible refine An _ (.fieldAddr 202 _ 0) ?_);(refine As AA (V.fieldAddr MV rfl BO) ?_;go_step)|refine X6 ?_|refine bU ?_|(refine AS 15 ?_);(refine Ag ?_;apply I8 (enc:=ik) hS 199 _ _ rfl _ rfl _ rfl Tryz.underlying199 (CK Tryz.underlying3) (.agg #[.int .i64 0, .int .i64 0, .int .i64 0]) (fun w=>Tryz.zeroValue197 w) _;(case hp=>exact AJ);(case hf=>with_reducible assumption);refine AB ?_;go_step)|refine Yq 7 ?_;clear hS;intro g7 w hS|refine Yv ?_;clear hS;intro w hS|refine AG ?_;go_step|fail)
   go_ret
   refine ⟨rfl,St.close (m1,m2) ?_⟩
   rw [HB.out,List.append_nil]
   exact (hS.pull (.tail hp3)).sub AV
 | some y=>
   obtain ⟨l,k⟩:=y
   have hm:=Eo hs
   obtain ⟨g1,g2',g3⟩:=HG.out.long _ hm
   dsimp only at g1 g2' g3
   have hf:Gl L s=some (.agg #[.int .i64 s, .int .i64 (l:Int), .int .i64 (k:Int)]):=by unfold Gl;rw [hs];rfl
   have HB:=AD (show wb L s=A2 l k by unfold wb;rw [hs])
   have HK:=AD (show k<2^l by omega)
   clear hs hm g3
   go_enter Tryz.func110,Tryz.ntmps110
   repeat' (first
    | (refine A3 111 ?_);refine A4 AA Tryz.call111 (Ml W _ _ _ g2 bs l k hS (.tail hp3) (by omega) HK.out (by omega)) ?_;clear hS;rintro e w ⟨rfl,hS⟩;refine Ae ?_;go_step|refine X0 ?_|refine Ze ?_|(with_reducible refine An _ (.fieldAddr 202 _ 0) ?_);(refine As AA (V.fieldAddr MV rfl BO) ?_;go_step)|refine X6 ?_|(with_reducible refine An _ (.fieldAddr 197 _ 1) ?_);(refine As AA (V.fieldAddr Qv rfl BO) ?_;go_step)|(with_reducible refine An _ (.fieldAddr 197 _ 2) ?_);(refine As AA (V.fieldAddr Qw rfl BO) ?_;go_step)|refine bU ?_|(refine AS 15 ?_);(refine Ag ?_;apply I9 (enc:=ik) hS 199 _ _ rfl _ rfl _ rfl Tryz.underlying199 (CK Tryz.underlying3) (.agg #[.int .i64 0, .int .i64 0, .int .i64 0]) (fun w=>Tryz.zeroValue197 w) _;(case hp=>exact AJ);(case hf=>with_reducible assumption);refine AB ?_;go_step)|refine Yq 7 ?_;clear hS;intro g7 w hS|refine Yv ?_;clear hS;intro w hS|refine X9 ?_|refine AG ?_;go_step|fail)
   go_ret
   refine ⟨rfl,St.close (m1,m2) ?_⟩
   rw [HB.out]
   exact hS.sub AV
def GH(L:List (Int×Nat×Nat))(l:List Nat)(i:Nat):Nat→Nat→Int×Int×Nat
 | 0,d=>(0,4,i+d)
 | f+1,d=>if 8*l.length<i+(d+1) then (0,3,i+d) else match codW L (((d+1:Nat):Int),(BF l i (d+1):Int)) with
   | some s=>(s,0,i+(d+1))
   | none=>GH L l i f (d+1)
theorem SU(l:List Nat)(i d:Nat)(h:i+d<8*l.length):BF l i (d+1)=2*BF l i d+BF l (i+d) 1:=by
 rw [Gg l i d h]
 congr 1
 have:=Gg l (i+d) 0 (by omega)
 rw [Nat.zero_add] at this
 rw [this,show BF l (i+d) 0=0 by unfold BF;rw [List.take_zero];rfl];simp
theorem AC.prt{P:Program}{W w:World}{rs rs':List Au}{tmps:Array Value}{p g n:Nat}{ty:TypeId}{ps:List Ah}(hS:St W w rs)(hp:tmps.getD p undef= .pointer (some ⟨g,0,none⟩))(h1:EW P ty n)(pl:AT (Go.Proofs.YtohacgmhmbijmaaGreatDoor.prt g ps) rs rs')(hn:CH ps n ps):AC P tmps w (.cell p ty) (.agg (AI ps).toArray):=
 AC.blk hS hp h1 pl hn.take.2
section
variable{P:Program}{Q:Exit→Act→World→Prop}{a:Act}{W w:World}{c:Code}
theorem VV{F:Nat→Nat→Nat→Act}(rs:Nat→Nat→Nat→List Au)(h:c.wp P (fun e a w=>e= .normal∧∃g g' g2,a=F g g' g2∧St W w (rs g g' g2)) a w)(k:∀g g' g2 w,St W w (rs g g' g2)→Q .normal (F g g' g2) w):c.wp P Q a w:=
 Code.wp_mono (fun e a w ⟨he,g,g',g2,ha,hS⟩=>by subst he;subst ha;exact k g g' g2 w hS) h
end
theorem Rp(a0:Option Addr)(a1:Option Addr)(w:World):(Instr.build 181 #[(0, .pointer a0),(1, .pointer a1)]).run Tryz.prog w= .ok (.agg #[.pointer a0, .pointer a1]) w:=by kernel_rfl
theorem Td (w:World):(Instr.build 171 #[]).run Tryz.prog w= .ok (.agg #[.slice none 0 0, .int .u64 0, .int .i64 0]) w:=by kernel_rfl
theorem Rn(a0:Option Addr)(a1:Option Addr)(w:World):(Instr.build 140 #[(0, .pointer a0),(1, .pointer a1)]).run Tryz.prog w= .ok (.agg #[.pointer a0, .pointer a1]) w:=by kernel_rfl
theorem Tc (w:World):(Instr.build 155 #[]).run Tryz.prog w= .ok (.agg #[.int .i64 0, .int .i64 0, .int .i64 0]) w:=by kernel_rfl
theorem Ro(m0:Int)(m1:Int)(w:World):(Instr.build 155 #[(0, .int .i64 m0),(1, .int .i64 m1)]).run Tryz.prog w= .ok (.agg #[.int .i64 m0, .int .i64 m1, .int .i64 0]) w:=by kernel_rfl
def YQ(g:Nat)(L1 L2:List (Int×Nat×Nat)):Au:=Zk fun x:Nat×Nat=>[blk g [.pointer (some ⟨x.1,0,none⟩), .pointer (some ⟨x.2,0,none⟩)],Ju x.1 L1,Ju x.2 L2]
theorem Dc(C:List Int)(v:Value)(h:Ap C 16):(AI [.ints C, .val v]).length=17:=by
 have:=h.out
 simp [AI,Ah.cells,this]
theorem cL(C1 C2:List Int)(v1 v2:Value):AI [.ints C1, .val v1]++(AI [.ints C2, .val v2]++[])=AI [.ints C1, .val v1, .ints C2, .val v2]:=by
 simp [AI,Ah.cells]
theorem Hu{W w:World}{rs:List Au}{g:Nat}{C1 C2:List Int}{v1 v2:Value}(hS:St W w (blk g (AI [.ints C1, .val v1]++(AI [.ints C2, .val v2]++[]))::rs)):St W w (prt g [.ints C1, .val v1, .ints C2, .val v2]::rs):=by
 rw [cL] at hS;exact hS
def Dw(C1 S1 C2 S2:List Int):Int:=if BA C1 S1=0 then BA C2 S2 else BA C1 S1
theorem OI(w0:World)(C1 C2 S1 S2:List Int)(a1 a2:Option Addr)(n1 n2 k1 k2:Nat)(hC1:Ap C1 16)(hC2:Ap C2 16)(hs1:Sl w0 1 (.slice a1 n1 k1) n1 (S1.map (Value.int .i64)))(hs2:Sl w0 1 (.slice a2 n2 k2) n2 (S2.map (Value.int .i64)))(hn1:n1≤9223372036854775807)(hn2:n2≤9223372036854775807)(E:Int)(hE:Dw C1 S1 C2 S2=E)(h0:E≠0):
 Calls Tryz.prog 85 #[.agg (AI [.ints C1, .val (.slice a1 n1 k1), .ints C2, .val (.slice a2 n2 k2)]).toArray] w0 fun e w=>e= .returned (.tuple #[.pointer none, .int .i64 E])∧Al w0 w:=by
 have hS:=St.start w0
 have hL1:=AD (Dc C1 (.slice a1 n1 k1) hC1)
 have hL2:=AD (Dc C2 (.slice a2 n2 k2) hC2)
 obtain ⟨E1,hE1⟩:∃x,BA C1 S1=x:=⟨_,rfl⟩
 obtain ⟨E2,hE2⟩:∃x,BA C2 S2=x:=⟨_,rfl⟩
 have HE1:=AD hE1
 have HE2:=AD hE2
 have he:(if E1=0 then E2 else E1)=E:=by rw [←hE1,←hE2];exact hE
 have HE:=AD he
 clear hE1 hE2 hE he
 go_enter Tryz.func85,Tryz.ntmps85
 repeat' (first
  | (refine AS 11 ?_);refine Ag ?_;refine AU (o:=⟨some 11,_,_,_,_,_⟩) hS 115 2 _ rfl 32 17 152 Ns _ _ (AX.agg rfl hL1.out (AX.agg rfl hL2.out AX.nil)) rfl (by decide) (by decide) ?_;clear hS;intro g11 w hS;replace hS:=Hu hS;refine AB ?_;go_step|refine X0 ?_|refine aV ?_|refine aW ?_|refine bi ?_|refine PG 1 ?_;clear hS;intro g1 w hS|refine LU ?_|refine AG ?_;go_step|fail)
 clear hL1 hL2
 go_loopg [13] 2 (fun gk kv w=>∃k:Nat,gk+k=2∧kv= .int .i64 k∧(1≤k→E1=0)∧(2≤k→E2=0)∧St w0 w [prt g1 [.ints C1, .val (.slice a1 n1 k1), .ints C2, .val (.slice a2 n2 k2)],prt g11 [.ints C1, .val (.slice a1 n1 k1), .ints C2, .val (.slice a2 n2 k2)]])
 case atStart=>exact ⟨0,rfl,rfl,fun h=>absurd h (by omega),fun h=>absurd h (by omega),hS.sub AV⟩
 case round=>
  clear hS
  obtain ⟨k,hk,rfl,HA,HB,hS⟩:=hrel
  by_cases hlt:k<2
  ·obtain rfl|rfl:k=0∨k=1:=by omega
   ·repeat' (first
     | (refine A3 73 ?_);refine A4 AA Tryz.call73 (CT _ C1 S1 a1 n1 k1 hC1 (hs1.ext hS.1) hn1) ?_;rintro e w ⟨rfl,hE2⟩;rw [HE1.out];replace hS:=hS.ext hE2;clear hE2;refine Ae ?_;go_step|refine X0 ?_|refine X2 ?_|refine Vk 15 ?_|refine X3 ?_|refine X7 ?_|refine LU ?_|refine Rk 5 ?_;clear hS;intro g5 w hS|refine TE ?_;clear hS;intro w hS|refine AG ?_;go_step|fail)
    ·refine AM (xs:=[_,_]) rfl (.cons (AC.tmp rfl) (.cons (AC.tmp rfl) (.nil))) (by simp) rfl ?_
     exact ⟨by have h:=HE.out;rw [if_neg (by omega)] at h;rw [h];rfl,hS.1⟩
    go_roundg (gk-1)
    case measure=>omega
    case rel=>exact ⟨1,by omega,rfl,fun _=>by omega,fun h=>absurd h (by omega),hS.sub AV⟩
   have h1:=HA (by omega)
   subst h1
   repeat' (first
    | (refine A3 73 ?_);refine A4 AA Tryz.call73 (CT _ C2 S2 a2 n2 k2 hC2 (hs2.ext hS.1) hn2) ?_;rintro e w ⟨rfl,hE2⟩;rw [HE2.out];replace hS:=hS.ext hE2;clear hE2;refine Ae ?_;go_step|refine X0 ?_|refine X2 ?_|refine Vk 15 ?_|refine X3 ?_|refine X7 ?_|refine LU ?_|refine Rk 5 ?_;clear hS;intro g5 w hS|refine TE ?_;clear hS;intro w hS|refine AG ?_;go_step|fail)
   ·refine AM (xs:=[_,_]) rfl (.cons (AC.tmp rfl) (.cons (AC.tmp rfl) (.nil))) (by simp) rfl ?_
    exact ⟨by have h:=HE.out;rw [if_pos rfl] at h;rw [h];rfl,hS.1⟩
   go_roundg (gk-1)
   case measure=>omega
   case rel=>exact ⟨2,by omega,rfl,fun _=>rfl,fun _=>by omega,hS.sub AV⟩
  have h1:=HA (by omega)
  have h2:=HB (by omega)
  exact absurd (by have h:=HE.out;rw [if_pos h1,h2] at h;exact h.symm) h0
theorem Hf(w0:World)(C1 C2 S1 S2:List Int)(a1 a2:Option Addr)(n1 n2 k1 k2:Nat)(hC1:Ap C1 16)(hC2:Ap C2 16)(hs1:Sl w0 1 (.slice a1 n1 k1) n1 (S1.map (Value.int .i64)))(hs2:Sl w0 1 (.slice a2 n2 k2) n2 (S2.map (Value.int .i64)))(hn1:n1≤9223372036854775807)(hn2:n2≤9223372036854775807)(hE1:BA C1 S1=0)(hE2:BA C2 S2=0):
 Calls Tryz.prog 85 #[.agg (AI [.ints C1, .val (.slice a1 n1 k1), .ints C2, .val (.slice a2 n2 k2)]).toArray] w0 fun e w=>∃g,e= .returned (.tuple #[.pointer (some ⟨g,0,none⟩), .int .i64 0])∧St w0 w [YQ g (Bu C1 S1) (Bu C2 S2)]:=by
 have hS:=St.start w0
 have hL1:=AD (Dc C1 (.slice a1 n1 k1) hC1)
 have hL2:=AD (Dc C2 (.slice a2 n2 k2) hC2)
 have HE1:=AD hE1
 have HE2:=AD hE2
 clear hE1 hE2
 go_enter Tryz.func85,Tryz.ntmps85
 repeat' (first
  | (refine AS 11 ?_);refine Ag ?_;refine AU (o:=⟨some 11,_,_,_,_,_⟩) hS 115 2 _ rfl 32 17 152 Ns _ _ (AX.agg rfl hL1.out (AX.agg rfl hL2.out AX.nil)) rfl (by decide) (by decide) ?_;clear hS;intro g11 w hS;replace hS:=Hu hS;refine AB ?_;go_step|refine X0 ?_|refine aV ?_|refine aW ?_|refine bi ?_|refine PG 1 ?_;clear hS;intro g1 w hS|refine LU ?_|refine AG ?_;go_step|fail)
 clear hL1 hL2
 go_loopg [13] 2 (fun gk kv w=>∃k:Nat,gk+k=2∧kv= .int .i64 k∧St w0 w [prt g1 [.ints C1, .val (.slice a1 n1 k1), .ints C2, .val (.slice a2 n2 k2)],prt g11 [.ints C1, .val (.slice a1 n1 k1), .ints C2, .val (.slice a2 n2 k2)]])
 case atStart=>exact ⟨0,rfl,rfl,hS.sub AV⟩
 case round=>
  clear hS
  obtain ⟨k,hk,rfl,hS⟩:=hrel
  by_cases hlt:k<2
  ·obtain rfl|rfl:k=0∨k=1:=by omega
   ·repeat' (first
     | (refine A3 73 ?_);refine A4 AA Tryz.call73 (CT _ C1 S1 a1 n1 k1 hC1 (hs1.ext hS.1) hn1) ?_;rintro e w ⟨rfl,hE2⟩;rw [HE1.out];replace hS:=hS.ext hE2;clear hE2;refine Ae ?_;go_step|refine X0 ?_|refine X2 ?_|refine Vk 15 ?_|refine X3 ?_|refine LU ?_|refine Rk 5 ?_;clear hS;intro g5 w hS|refine TE ?_;clear hS;intro w hS|refine AG ?_;go_step|fail)
    repeat' (first
     | refine X1 ?_|refine X7 ?_|refine AG ?_;go_step|fail)
    all_goals (try exact AW)
    go_roundg (gk-1)
    case measure=>omega
    case rel=>exact ⟨1,by omega,rfl,hS.sub AV⟩
   repeat' (first
    | (refine A3 73 ?_);refine A4 AA Tryz.call73 (CT _ C2 S2 a2 n2 k2 hC2 (hs2.ext hS.1) hn2) ?_;rintro e w ⟨rfl,hE2⟩;rw [HE2.out];replace hS:=hS.ext hE2;clear hE2;refine Ae ?_;go_step|refine X0 ?_|refine X2 ?_|refine Vk 15 ?_|refine X3 ?_|refine LU ?_|refine Rk 5 ?_;clear hS;intro g5 w hS|refine TE ?_;clear hS;intro w hS|refine AG ?_;go_step|fail)
   repeat' (first
    | refine X1 ?_|refine X7 ?_|refine AG ?_;go_step|fail)
   all_goals (try exact AW)
   go_roundg (gk-1)
   case measure=>omega
   case rel=>exact ⟨2,by omega,rfl,hS.sub AV⟩
  obtain rfl:k=2:=by omega
  repeat' (first
   | refine X2 ?_|refine AG ?_;go_step|fail)
  apply VV (rs:=fun g25 g28 g30=>[YQ g30 (Bu C1 S1) (Bu C2 S2)])
  ·refine AQ [5,7] (fun w=>St w0 w [prt g1 [.ints C1, .val (.slice a1 n1 k1), .ints C2, .val (.slice a2 n2 k2)]]) AA ?_
   replace hS:=hS.drew
   focus
    refine Bf 0 BU (V.fieldAddr T1 rfl BO) ?_;go_step
    apply Cb 1 Am AA AA AA Ch [2,5,6,7,8,9] AA (hS.sub AV)
    case hfr=>intro w hS;((refine Ag ?_;apply C8 hS 32 _ rfl _ _ rfl 17 (AP rfl) _;(case hp=>exact AJ);(case hi=>(repeat (first|(apply GK.head;(repeat (first|exact CH.nil|(apply CH.ints;(case hn=>exact EJ);(case h=>omega);(case hm=>rfl))|apply CH.val)))|(apply GK.skipI;(case hn=>exact EJ);(case h=>omega);(case ho=>rfl))|apply GK.skipV)));refine AB ?_;go_step));refine wpList_nil ?_;exact ⟨rfl,rfl⟩
    case hd=>rfl
    refine Bf 3 BU (V.fieldAddr T2 rfl BO) ?_;go_step
    apply Cb 4 Am AA AA AA Ch [5,6,7,8,9] AA (hS.sub AV)
    case hfr=>intro w hS;((refine Ag ?_;apply C8 hS 32 _ rfl _ _ rfl 17 (AP rfl) _;(case hp=>exact AJ);(case hi=>(repeat (first|(apply GK.head;(repeat (first|exact CH.nil|(apply CH.ints;(case hn=>exact EJ);(case h=>omega);(case hm=>rfl))|apply CH.val)))|(apply GK.skipI;(case hn=>exact EJ);(case h=>omega);(case ho=>rfl))|apply GK.skipV)));refine AB ?_;go_step));refine wpList_nil ?_;exact ⟨rfl,rfl⟩
    case hd=>rfl
    refine Aa 2 ?_
    refine Af (f:=118) rfl Tryz.call118 (Hh _ C1 S1 a1 n1 k1 hC1 (hs1.ext hS.1) hn1 HE1.out) ?_;rintro e w ⟨g25,rfl,hS2⟩;replace hS:=hS.call1 hS2;clear hS2;refine ⟨_,rfl,?_⟩
    refine ⟨fun _ _=>hS.sub AV,?_⟩
    refine AF ?_
    go_step
    refine Aa 5 ?_
    refine Af (f:=118) rfl Tryz.call118 (Hh _ C2 S2 a2 n2 k2 hC2 (hs2.ext hS.1) hn2 HE2.out) ?_;rintro e w ⟨g28,rfl,hS2⟩;replace hS:=hS.call1 hS2;clear hS2;refine ⟨_,rfl,?_⟩
    refine ⟨fun h=>absurd (by decide) h,?_⟩
    refine AF ?_
    go_step
    refine Bf 6 BU (V.build (vs:=[(0,_),(1,_)]) rfl (Rp _ _)) ?_;go_step
    refine Aa 7 ?_
    (refine CP (o:=⟨some 30,_,_,_,_,_⟩) hS 181 _ rfl _ rfl ?_;clear hS;intro g30 w hS)
    refine ⟨fun h=>absurd (by decide) h,?_⟩
    refine AF ?_
    go_step
    refine dW 8 BU ?_;go_step
    refine dW 9 BU ?_;go_step
    refine AE AA ?_ _
    exact ⟨rfl,g25,g28,g30,rfl,St.close (g25,g28) (by dsimp only [List.cons_append,List.nil_append];exact hS.sub AV)⟩
  clear hS
  intro g25 g28 g30 w hS
  repeat' (first|(refine AG ?_;go_step)|fail)
  refine AM (xs:=[_,_]) rfl (.cons (AC.tmp rfl) (.cons (AC.tmp rfl) (.nil))) (by simp) rfl ?_
  exact ⟨g30,rfl,hS⟩
end Go.Proofs.YtohacgmhmbijmaaGreatDoor
/-
  DERIVED:THE SHELF's CONTRACTS AT THIS DUMP,IN PLAIN WORDS (tools/lay-plain.mjs out of 'TryzShelf.lean',which tools/lay-shelf.mjs wrote):THE SAME DECLARATIONS UNDER THE SAME NAMES:'import', 'namespace', 'open', 'def', 'theorem' AND NOTHING ELSE:no command of the shelf's:FOR A HAND-IN. Each laying:the table of numbers ('.._ren') and one theorem,a field a fact of the dump's own or the kernel's comparison;each contract:ONE APPLICATION.
-/
namespace Go.Proofs
open Go.Shelf
def Tryz.lays125_ren:Go.Shelf.Ren:=⟨fun|125=>153|128=>158|129=>159|n=>n,fun|46=>116|3=>3|51=>220|53=>169|4=>4|5=>5|9=>9|n=>n,fun|n=>n⟩
theorem Tryz.lays125:Go.Proofs.Lays.n125 Tryz.prog Tryz.lays125_ren:={
  mixed:=by kernel_rfl
  f125:=Tryz.func153.trans (congrArg some (by kernel_rfl))
  f128:=Tryz.func158.trans (congrArg some (by kernel_rfl))
  f129:=Tryz.func159.trans (congrArg some (by kernel_rfl))
  t3:=Tryz.underlying3
  a3:=Tryz.isAgg3
  z3:=Tryz.sizeOf3
  v3:=Tryz.zeroValue3
  t4:=Tryz.underlying4
  a4:=Tryz.isAgg4
  z4:=Tryz.sizeOf4
  v4:=Tryz.zeroValue4
  t5:=Tryz.underlying5
  a5:=Tryz.isAgg5
  z5:=Tryz.sizeOf5
  v5:=Tryz.zeroValue5
  t9:=Tryz.underlying9
  a9:=Tryz.isAgg9
  z9:=Tryz.sizeOf9
  v9:=Tryz.zeroValue9
  t46:=Tryz.underlying116
  a46:=Tryz.isAgg116
  z46:=Tryz.sizeOf116
  v46:=Tryz.zeroValue116
  t51:=Tryz.underlying220
  a51:=Tryz.isAgg220
  z51:=Tryz.sizeOf220
  v51:=Tryz.zeroValue220
  t53:=Tryz.underlying169
  a53:=Tryz.isAgg169
  z53:=Tryz.sizeOf169
  v53:=Tryz.zeroValue169}
/-- bits.Len: "Len returns the minimum number of bits required to represent x; the result is 0 for x == 0.": IT RETURNS 'Lib.bitLen x'; the world is as it was. (A uint has 64 bits in the model.) ITS CALLEE bits.Len64 IS MET BY ITS OWN CONTRACT OFF THE SHELF (lay that first). (LAID: no walk: one application.) -/
theorem Tryz.bits_Len(x:Int)(w:World)(h0:0≤x)(h1:x≤18446744073709551615):
    Calls Tryz.prog 153 #[.int .u64 x] w fun e w'=>e= .returned (.int .i64 (Lib.bitLen x.toNat))∧w'=w:=Any.bits_Len Tryz.lays125 x w h0 h1
def Tryz.lays185_ren:Go.Shelf.Ren:=⟨fun|185=>142|187=>148|115=>70|253=>149|224=>150|254=>151|255=>156|291=>157|n=>n,fun|37=>35|3=>3|4=>4|0=>0|5=>5|46=>116|9=>9|146=>221|51=>220|n=>n,fun|1=>0|n=>n⟩
theorem Tryz.lays185:Go.Proofs.Lays.n185 Tryz.prog Tryz.lays185_ren:={
  mixed:=by kernel_rfl
  f115:=Tryz.func70.trans (congrArg some (by kernel_rfl))
  f185:=Tryz.func142.trans (congrArg some (by kernel_rfl))
  f187:=Tryz.func148.trans (congrArg some (by kernel_rfl))
  f224:=Tryz.func150.trans (congrArg some (by kernel_rfl))
  f253:=Tryz.func149.trans (congrArg some (by kernel_rfl))
  f254:=Tryz.func151.trans (congrArg some (by kernel_rfl))
  f255:=Tryz.func156.trans (congrArg some (by kernel_rfl))
  f291:=Tryz.func157.trans (congrArg some (by kernel_rfl))
  t0:=Tryz.underlying0
  a0:=Tryz.isAgg0
  z0:=Tryz.sizeOf0
  v0:=Tryz.zeroValue0
  t3:=Tryz.underlying3
  a3:=Tryz.isAgg3
  z3:=Tryz.sizeOf3
  v3:=Tryz.zeroValue3
  t4:=Tryz.underlying4
  a4:=Tryz.isAgg4
  z4:=Tryz.sizeOf4
  v4:=Tryz.zeroValue4
  t5:=Tryz.underlying5
  a5:=Tryz.isAgg5
  z5:=Tryz.sizeOf5
  v5:=Tryz.zeroValue5
  t9:=Tryz.underlying9
  a9:=Tryz.isAgg9
  z9:=Tryz.sizeOf9
  v9:=Tryz.zeroValue9
  t37:=Tryz.underlying35
  a37:=Tryz.isAgg35
  z37:=Tryz.sizeOf35
  v37:=Tryz.zeroValue35
  t46:=Tryz.underlying116
  a46:=Tryz.isAgg116
  z46:=Tryz.sizeOf116
  v46:=Tryz.zeroValue116
  t51:=Tryz.underlying220
  a51:=Tryz.isAgg220
  z51:=Tryz.sizeOf220
  v51:=Tryz.zeroValue220
  t146:=Tryz.underlying221
  a146:=Tryz.isAgg221
  z146:=Tryz.sizeOf221
  v146:=Tryz.zeroValue221
  g1:=by kernel_rfl}
def Tryz.laysSlB13_ren:Go.Shelf.Ren:=⟨fun|13=>141|24=>146|25=>147|12=>142|31=>155|19=>148|20=>70|21=>149|22=>150|23=>151|29=>156|30=>157|n=>n,fun|22=>35|3=>3|4=>4|0=>0|5=>5|9=>9|33=>116|40=>221|39=>220|n=>n,fun|0=>0|n=>n⟩
theorem Tryz.laysSlB13:Go.Proofs.SlLaysB.n13 Tryz.prog Tryz.laysSlB13_ren:={
  mixed:=by kernel_rfl
  f13:=Tryz.func141.trans (congrArg some (by kernel_rfl))
  f25:=Tryz.func147.trans (congrArg some (by kernel_rfl))
  t0:=Tryz.underlying0
  a0:=Tryz.isAgg0
  z0:=Tryz.sizeOf0
  v0:=Tryz.zeroValue0
  t3:=Tryz.underlying3
  a3:=Tryz.isAgg3
  z3:=Tryz.sizeOf3
  v3:=Tryz.zeroValue3
  t4:=Tryz.underlying4
  a4:=Tryz.isAgg4
  z4:=Tryz.sizeOf4
  v4:=Tryz.zeroValue4
  t5:=Tryz.underlying5
  a5:=Tryz.isAgg5
  z5:=Tryz.sizeOf5
  v5:=Tryz.zeroValue5
  t22:=Tryz.underlying35
  a22:=Tryz.isAgg35
  z22:=Tryz.sizeOf35
  v22:=Tryz.zeroValue35}
open Go.RowKit Go.Lib in
/-- The same, s AT WHATEVER ADDRESS, its cells as 'open_ints' hands them ('a.add i'). (LAID: no walk: one application.) -/
theorem Tryz.bytes_Count_one_at(a:Addr)(n c b2 o2 d:Nat)(xs:List Int)(cv:Int)(w:World)(hx:xs.length=n)(hc:∀i,i<n→w.cell? (a.add i)=some (.int .u8 (xs.getD i 0)))(hc2:w.cell? ⟨b2,o2,none⟩=some (.int .u8 cv)):
    Calls Tryz.prog 141 #[.slice (some a) n c, .slice (some ⟨b2,o2,none⟩) 1 d] w fun e w'=>e= .returned (.int .i64 (Lib.countByte (Lib.bytesOf xs) cv.toNat.toUInt8))∧w'=w:=Any.bytes_Count_one_at Tryz.laysSlB13 a n c b2 o2 d xs cv w hx hc hc2
open Go.RowKit Go.Lib in
/-- The same where s is nil: 0. (LAID: no walk: one application.) -/
theorem Tryz.bytes_Count_one_nil(b2 o2 d:Nat)(cv:Int)(w:World)(hc2:w.cell? ⟨b2,o2,none⟩=some (.int .u8 cv)):
    Calls Tryz.prog 141 #[.slice none 0 0, .slice (some ⟨b2,o2,none⟩) 1 d] w fun e w'=>e= .returned (.int .i64 0)∧w'=w:=Any.bytes_Count_one_nil Tryz.laysSlB13 b2 o2 d cv w hc2
open Go.RowKit Go.Lib in
/-- bytes.Index at a separator of one byte, s at whatever address. (LAID: no walk: one application.) -/
theorem Tryz.bytes_Index_one_at(a:Addr)(n c b2 o2 d:Nat)(xs:List Int)(cv:Int)(w:World)(hx:xs.length=n)(hc:∀i,i<n→w.cell? (a.add i)=some (.int .u8 (xs.getD i 0)))(hc2:w.cell? ⟨b2,o2,none⟩=some (.int .u8 cv)):
    Calls Tryz.prog 142 #[.slice (some a) n c, .slice (some ⟨b2,o2,none⟩) 1 d] w fun e w'=>e= .returned (.int .i64 (Lib.indexByte (Lib.bytesOf xs) cv.toNat.toUInt8))∧w'=w:=Any.bytes_Index_one_at Tryz.lays185 a n c b2 o2 d xs cv w hx hc hc2
open Go.Proofs Go.RowKit Go.Lib in
/-- bytes.Index, WHOLE: "Index returns the index of the first instance of sep in s, or -1 if sep is not present in s.": 'Lib.index' of the two lists of bytes. (LAID: no walk: one application.) -/
theorem Tryz.bytes_Index_at(a1 a2:Addr)(n c1 k c2:Nat)(xs ys:List Int)(m:Int)(w:World)(hx:xs.length=n)(hy:ys.length=k)(hr1:∀x∈xs,0≤x∧x<256)(hr2:∀y∈ys,0≤y∧y<256)(hc1:∀i,i<n→w.cell? (a1.add i)=some (.int .u8 (xs.getD i 0)))(hc2:∀i,i<k→w.cell? (a2.add i)=some (.int .u8 (ys.getD i 0)))(hcap:n≤c1)(hs:n<4294967281)(hk:k≤9223372036854775807)(hm:w.cell? ⟨0,0,none⟩=some (.int .i64 m)):
    Calls Tryz.prog 142 #[.slice (some a1) n c1, .slice (some a2) k c2] w fun e w'=>e= .returned (.int .i64 (Lib.index (Lib.bytesOf xs) (Lib.bytesOf ys)))∧∃q,w'=w.drewN q:=Any.bytes_Index_at Tryz.lays185 a1 a2 n c1 k c2 xs ys m w hx hy hr1 hr2 hc1 hc2 hcap hs hk hm
def Tryz.laysM185_ren:Go.Shelf.Ren:=⟨fun|185=>142|187=>148|115=>70|253=>149|224=>150|254=>151|255=>156|291=>157|n=>n,fun|37=>35|3=>3|4=>4|0=>0|5=>5|46=>116|9=>9|146=>221|51=>220|n=>n,fun|1=>0|n=>n⟩
theorem Tryz.laysM185:Go.Proofs.LaysM.n185 Tryz.prog Tryz.laysM185_ren:={
  mixed:=by kernel_rfl
  f115:=Tryz.func70.trans (congrArg some (by kernel_rfl))
  f185:=Tryz.func142.trans (congrArg some (by kernel_rfl))
  f187:=Tryz.func148.trans (congrArg some (by kernel_rfl))
  f224:=Tryz.func150.trans (congrArg some (by kernel_rfl))
  f253:=Tryz.func149.trans (congrArg some (by kernel_rfl))
  f254:=Tryz.func151.trans (congrArg some (by kernel_rfl))
  f255:=Tryz.func156.trans (congrArg some (by kernel_rfl))
  f291:=Tryz.func157.trans (congrArg some (by kernel_rfl))
  t0:=Tryz.underlying0
  a0:=Tryz.isAgg0
  z0:=Tryz.sizeOf0
  v0:=Tryz.zeroValue0
  t3:=Tryz.underlying3
  a3:=Tryz.isAgg3
  z3:=Tryz.sizeOf3
  v3:=Tryz.zeroValue3
  t4:=Tryz.underlying4
  a4:=Tryz.isAgg4
  z4:=Tryz.sizeOf4
  v4:=Tryz.zeroValue4
  t5:=Tryz.underlying5
  a5:=Tryz.isAgg5
  z5:=Tryz.sizeOf5
  v5:=Tryz.zeroValue5
  t9:=Tryz.underlying9
  a9:=Tryz.isAgg9
  z9:=Tryz.sizeOf9
  v9:=Tryz.zeroValue9
  t37:=Tryz.underlying35
  a37:=Tryz.isAgg35
  z37:=Tryz.sizeOf35
  v37:=Tryz.zeroValue35
  t46:=Tryz.underlying116
  a46:=Tryz.isAgg116
  z46:=Tryz.sizeOf116
  v46:=Tryz.zeroValue116
  t51:=Tryz.underlying220
  a51:=Tryz.isAgg220
  z51:=Tryz.sizeOf220
  v51:=Tryz.zeroValue220
  t146:=Tryz.underlying221
  a146:=Tryz.isAgg221
  z146:=Tryz.sizeOf221
  v146:=Tryz.zeroValue221
  g1:=by kernel_rfl
  i0:=by kernel_rfl
  i3:=by kernel_rfl
  i4:=by kernel_rfl
  i5:=by kernel_rfl
  i9:=by kernel_rfl
  i37:=by kernel_rfl
  i46:=by kernel_rfl
  i51:=by kernel_rfl
  i146:=by kernel_rfl
  m1:=by kernel_rfl
  s1_3:=fun w h=>Go.Proofs.cell_of_shapedOpen_int (zero:=#[.int .i64 0]) (t:=3) h (of_decide_eq_true (by kernel_rfl)) (by kernel_rfl) rfl (by kernel_rfl) (by kernel_rfl) Tryz.underlying3}
def Tryz.laysSlC13_ren:Go.Shelf.Ren:=⟨fun|13=>141|24=>146|25=>147|12=>142|31=>155|19=>148|20=>70|21=>149|22=>150|23=>151|29=>156|30=>157|n=>n,fun|22=>35|3=>3|4=>4|0=>0|5=>5|9=>9|33=>116|40=>221|39=>220|n=>n,fun|0=>0|n=>n⟩
theorem Tryz.laysSlC13:Go.Proofs.SlLaysC.n13 Tryz.prog Tryz.laysSlC13_ren:={
  mixed:=by kernel_rfl
  f12:=Tryz.func142.trans (congrArg some (by kernel_rfl))
  f13:=Tryz.func141.trans (congrArg some (by kernel_rfl))
  f19:=Tryz.func148.trans (congrArg some (by kernel_rfl))
  f20:=Tryz.func70.trans (congrArg some (by kernel_rfl))
  f21:=Tryz.func149.trans (congrArg some (by kernel_rfl))
  f22:=Tryz.func150.trans (congrArg some (by kernel_rfl))
  f23:=Tryz.func151.trans (congrArg some (by kernel_rfl))
  f25:=Tryz.func147.trans (congrArg some (by kernel_rfl))
  f29:=Tryz.func156.trans (congrArg some (by kernel_rfl))
  f30:=Tryz.func157.trans (congrArg some (by kernel_rfl))
  t0:=Tryz.underlying0
  a0:=Tryz.isAgg0
  z0:=Tryz.sizeOf0
  v0:=Tryz.zeroValue0
  t3:=Tryz.underlying3
  a3:=Tryz.isAgg3
  z3:=Tryz.sizeOf3
  v3:=Tryz.zeroValue3
  t4:=Tryz.underlying4
  a4:=Tryz.isAgg4
  z4:=Tryz.sizeOf4
  v4:=Tryz.zeroValue4
  t5:=Tryz.underlying5
  a5:=Tryz.isAgg5
  z5:=Tryz.sizeOf5
  v5:=Tryz.zeroValue5
  t9:=Tryz.underlying9
  a9:=Tryz.isAgg9
  z9:=Tryz.sizeOf9
  v9:=Tryz.zeroValue9
  t22:=Tryz.underlying35
  a22:=Tryz.isAgg35
  z22:=Tryz.sizeOf35
  v22:=Tryz.zeroValue35
  t33:=Tryz.underlying116
  a33:=Tryz.isAgg116
  z33:=Tryz.sizeOf116
  v33:=Tryz.zeroValue116
  t39:=Tryz.underlying220
  a39:=Tryz.isAgg220
  z39:=Tryz.sizeOf220
  v39:=Tryz.zeroValue220
  t40:=Tryz.underlying221
  a40:=Tryz.isAgg221
  z40:=Tryz.sizeOf221
  v40:=Tryz.zeroValue221
  g0:=by kernel_rfl}
open Go.RowKit Go.Lib in
/-- bytes.Count at a separator of two bytes or more: "Count counts the number of non-overlapping instances of sep in s.": 'Lib.count' of the two lists of bytes. (LAID: no walk: one application.) -/
theorem Tryz.bytes_Count_at(a1 a2:Addr)(n c1 k c2:Nat)(xs ys:List Int)(m:Int)(w:World)(hx:xs.length=n)(hy:ys.length=k)(hr1:∀x∈xs,0≤x∧x<256)(hr2:∀y∈ys,0≤y∧y<256)(hc1:∀i,i<n→w.cell? (a1.add i)=some (.int .u8 (xs.getD i 0)))(hc2:∀i,i<k→w.cell? (a2.add i)=some (.int .u8 (ys.getD i 0)))(hcap:n≤c1)(hs:n<4294967281)(hk:k≤9223372036854775807)(h2:2≤k)(hm:w.cell? ⟨0,0,none⟩=some (.int .i64 m)):
    Calls Tryz.prog 141 #[.slice (some a1) n c1, .slice (some a2) k c2] w fun e w'=>e= .returned (.int .i64 (Lib.count (Lib.bytesOf xs) (Lib.bytesOf ys)))∧∃q,w'=w.drewN q:=Any.bytes_Count_at Tryz.laysSlC13 a1 a2 n c1 k c2 xs ys m w hx hy hr1 hr2 hc1 hc2 hcap hs hk h2 hm
open Go.RowKit Go.Lib in
/-- bytes.Count at a separator of two bytes or more where s is nil: 0. (LAID: no walk: one application.) -/
theorem Tryz.bytes_Count_nil(p2:Option Addr)(k c2:Nat)(w:World)(h2:2≤k)(hk:k≤9223372036854775807):
    Calls Tryz.prog 141 #[.slice none 0 0, .slice p2 k c2] w fun e w'=>e= .returned (.int .i64 0)∧w'=w:=Any.bytes_Count_nil Tryz.laysSlC13 p2 k c2 w h2 hk
end Go.Proofs
namespace Go.Proofs.YtohacgmhmbijmaaGreatDoor
attribute [local irreducible] Region.wanted
open Go.RowKit
set_option linter.unusedVariables false
set_option maxRecDepth 100000
set_option maxHeartbeats 8000000
def IO(n:Nat):Nat:=if n=0 then 0 else n.log2+1
theorem Fs(n:Nat):n<2^IO n∧(0<n→1≤IO n∧2^(IO n-1)≤n):=by
 unfold IO
 by_cases h:n=0
 ·subst h;simp
 rw [if_neg h]
 exact ⟨Nat.lt_log2_self,fun _=>⟨by omega,by rw [Nat.add_sub_cancel];exact Nat.log2_self_le h⟩⟩
theorem JN(n k:Nat)(h:n<2^k):IO n≤k:=by
 obtain ⟨_,h2⟩:=Fs n
 rcases Nat.eq_zero_or_pos n with h0|h0
 ·subst h0;simp [IO]
 obtain ⟨h3,h4⟩:=h2 h0
 have h5:=Nat.lt_of_le_of_lt h4 h
 have:=(Nat.pow_lt_pow_iff_right (show 1<2 by omega)).1 h5
 omega
theorem Ng(n k:Nat)(h1:2^k≤n)(h2:n<2^(k+1)):IO n=k+1:=by
 have h3:=JN n (k+1) h2
 obtain ⟨h4,_⟩:=Fs n
 have h5:=Nat.lt_of_le_of_lt h1 h4
 have:=(Nat.pow_lt_pow_iff_right (show 1<2 by omega)).1 h5
 omega
theorem Tf(n:Nat)(h:n<2^64):Lib.bitLen n=IO n:=by
 rcases Nat.eq_zero_or_pos n with h0|h0
 ·subst h0;rfl
 obtain ⟨h1,h2,h3⟩:=Lib.bitLenAux_bounds 64 n h (by omega)
 have:=Ng n (Lib.bitLen n-1) h2 (by rw [show Lib.bitLen n-1+1=Lib.bitLen n by have:1≤Lib.bitLen n:=h1;omega];exact h3)
 have h4:1≤Lib.bitLen n:=h1
 omega
theorem Q3(x:Nat)(w:World)(h:x<65536):Calls Tryz.prog 153 #[.int .u64 x] w fun e w'=>e= .returned (.int .i64 (IO x))∧w=w':=
 (Tryz.bits_Len x w (by omega) (by omega)).mono fun e w' ⟨h1,h2⟩=>⟨by rw [h1,Int.toNat_natCast,Tf x (by omega)],h2.symm⟩
def sz(n:Int):Nat:=IO n.natAbs
def sv(n:Int):Int:=if n<0 then n+(2^sz n-1:Nat) else n
theorem RQ(n:Int)(h: -4096<n∧n<4096):sz n≤12:=JN _ 12 (by omega)
theorem Mr(n:Int)(w:World)(h0: -4096<n)(h1:n<4096):
 Calls Tryz.prog 144 #[.int .i64 n] w fun e w'=>e= .returned (.tuple #[.int .i64 (sz n), .int .i64 (sv n), .int .i64 0])∧w=w':=by
 obtain ⟨m,hm⟩:∃m,m=n.natAbs:=⟨_,rfl⟩
 have hmax:max n (-n)=(m:Int):=by omega
 have hm4:m<4096:=by omega
 have hu:IntKind.u64.wrap (m:Int)=(m:Int):=by simp [IntKind.wrap,IntKind.signed,IntKind.bits];omega
 have h2: -4095≤n:=by omega
 obtain ⟨k,hk⟩:∃k,IO m=k:=⟨_,rfl⟩
 have hk12:k≤12:=by rw [←hk];exact JN m 12 (by omega)
 have HV:=AD (show sv n=if n<0 then n+(2^sz n-1:Nat) else n from rfl)
 have HK:=AD hk
 have HZ:Hid (sz n=k):=by unfold Hid sz;rw [←hm,hk]
 have HPW:=AD (mask_i64 k (by omega))
 have hp1:2^k≤2^12:=Nat.pow_le_pow_right (by omega) hk12
 have hp0:=Nat.two_pow_pos k
 have hq4:2^k-1≤4095:=by omega
 obtain ⟨q,hq⟩:∃q,2^k-1=q:=⟨_,rfl⟩
 rw [hq] at HPW hq4
 have HQ:=AD hq
 have hk64:(k:Int)<64:=by omega
 clear hm hp1 hp0 hq hk
 by_cases hn:n<0
 ·have HV2:Hid (sv n=n+(q:Int)):=by unfold Hid;rw [HV.out,if_pos hn,HZ.out,HQ.out]
  clear HV
  have hpw:=HPW.out
  clear HPW
  go_enter Tryz.func144,Tryz.ntmps144
  go_wp2_with (go_at_call 153;refine (Q3 m _ (by omega)).mono ?_;rintro e w' ⟨rfl,rfl⟩;rw [HK.out])
  refine bodyPost_ret (results_tmp3 rfl _ _ _) rfl ?_
  exact ⟨by rw [HZ.out,HV2.out];rfl,rfl⟩
 have HV2:Hid (sv n=n):=by unfold Hid;rw [HV.out,if_neg hn]
 clear HV HPW
 go_enter Tryz.func144,Tryz.ntmps144
 go_wp2_with (go_at_call 153;refine (Q3 m _ (by omega)).mono ?_;rintro e w' ⟨rfl,rfl⟩;rw [HK.out])
 refine bodyPost_ret (results_tmp3 rfl _ _ _) rfl ?_
 exact ⟨by rw [HZ.out,HV2.out];rfl,rfl⟩
def Df(k v:Nat):Int:=if 0<k∧v<2^(k-1) then (v:Int)-(2^k-1:Nat) else v
theorem Mq(k v:Nat)(w:World)(hk:k≤12)(hv:v<2^k):
 Calls Tryz.prog 121 #[.int .i64 k, .int .i64 v] w fun e w'=>e= .returned (.tuple #[.int .i64 (Df k v), .int .i64 0])∧w=w':=by
 have HPW:=AD (mask_i64 k (by omega))
 have HP:=AD (pow_i64 k (by omega))
 have hp1:2^k≤2^12:=Nat.pow_le_pow_right (by omega) hk
 have HB:=AD (show Df k v=if 0<k∧v<2^(k-1) then (v:Int)-(2^k-1:Nat) else v from rfl)
 have hsh:0<k→((v:Int)/2^(k-1)==0)=decide (v<2^(k-1)):=fun h=>by
  have h3:((v:Int)/2^(k-1))=((v/2^(k-1):Nat):Int):=by push_cast;rfl
  rw [h3,Bool.eq_iff_iff]
  have h4:=Nat.two_pow_pos (k-1)
  have h5:=@Nat.div_eq_zero_iff v (2^(k-1))
  simp only [beq_iff_eq,decide_eq_true_eq]
  omega
 obtain ⟨q,hq⟩:∃q,2^k=q:=⟨_,rfl⟩
 rw [hq] at HPW hp1 hv HB HP
 have hq1:q-1≤4095:=by omega
 have hq0:k=0→q=1:=fun h=>by subst h;exact hq.symm
 clear hq
 have HF:Hid (wrap64 ((v:Int)-wrap64 ((q:Int)-1))=(v:Int)-((q-1:Nat):Int)):=by unfold Hid wrap64;omega
 have hv2:(v:Int)<(q:Int):=by omega
 have hv3:(0:Int)≤(v:Int):=by omega
 have hk1:(0:Int)≤(k:Int):=by omega
 have hk2:(k:Int)≤12:=by omega
 by_cases h0:k=0
 ·subst h0
  have hv0:v=0:=by have:=hq0 rfl;omega
  subst hv0
  have HV2:Hid (Df 0 0=0):=by unfold Hid;rw [HB.out,if_neg (by omega)];rfl
  clear HB HP HPW hsh hv hp1 hq1 hq0 HF hv2 hv3 hk hk1 hk2
  go_enter Tryz.func121,Tryz.ntmps121
  go_wp2_with fail
  go_ret2
  exact ⟨by rw [HV2.out];rfl,rfl⟩
 obtain ⟨r,rfl⟩:∃r,k=r+1:=⟨k-1,by omega⟩
 have hr0:(0:Int)≤(r:Int):=by omega
 have hr64:(r:Int)<64:=by omega
 have hs1:IntKind.i64.wrap (((r+1:Nat):Int)-1)=(r:Int):=by simp [IntKind.wrap,IntKind.signed,IntKind.bits];omega
 have hsh':=hsh (by omega)
 rw [Nat.add_sub_cancel] at hsh' HB
 have hpos:¬((r+1:Nat):Int)≤0:=by omega
 have hpos2:(0:Int)<((r+1:Nat):Int):=by omega
 have hpw:=HP.out
 have hpm:=HPW.out
 clear hsh HP HPW hq1 hq0 hp1 hk h0
 have hyp:¬(q:Int)≤(v:Int):=by omega
 by_cases hlt:v<2^r
 ·have HV2:Hid (Df (r+1) v=(v:Int)-((q-1:Nat):Int)):=by unfold Hid;rw [HB.out,if_pos ⟨by omega,hlt⟩]
  have hsh2:((v:Int)/2^r==0)=true:=by rw [hsh',decide_eq_true hlt]
  clear hsh' HB hlt hv
  go_enter Tryz.func121,Tryz.ntmps121
  go_wp2_with fail
  go_ret2
  exact ⟨by rw [HV2.out,←HF.out];rfl,rfl⟩
 have HV2:Hid (Df (r+1) v=(v:Int)):=by unfold Hid;rw [HB.out,if_neg (fun h=>hlt h.2)]
 have hsh2:((v:Int)/2^r==0)=false:=by rw [hsh',decide_eq_false hlt]
 clear hsh' HB hlt hv HF
 go_enter Tryz.func121,Tryz.ntmps121
 go_wp2_with fail
 go_ret2
 exact ⟨by rw [HV2.out];rfl,rfl⟩
def H8(s:Int×Int×Bool):Int×Int×Bool:=
 if s.2.2=true∧s.2.1=7 then (s.1+1,s.2.1,false)
 else if s.2.2=true∧s.1=0 then (s.1,s.2.1+1,false)
 else if s.2.2=true then (s.1-1,s.2.1+1,true)
 else if s.1=7 then (s.1,s.2.1+1,true)
 else if s.2.1=0 then (s.1+1,s.2.1,true)
 else (s.1+1,s.2.1-1,false)
def TL:Nat→Int×Int×Bool
 | 0=>(0,0,true)
 | k+1=>H8 (TL k)
def zn(k:Nat):Nat:=(8*(TL k).1+(TL k).2.1).toNat
def O5:List Nat:=(List.range 64).map zn
def zi:List Int:=O5.map fun (n:Nat)=>(n:Int)
theorem aR:∀k,k<64→0≤(TL k).1∧(TL k).1≤7∧0≤(TL k).2.1∧(TL k).2.1≤7:=by decide+kernel
def zl(k:Nat):List Int:=zi.take k++List.replicate (64-k) 0
theorem aN:∀k,k<65→(zl k).length=64:=by decide+kernel
theorem aO:∀k,k<64→(zl k).set k (8*(TL k).1+(TL k).2.1)=zl (k+1):=by decide+kernel
theorem aM:zl 64=zi:=by decide+kernel
theorem Vd:zi.length=64:=by decide+kernel
theorem Kz(w:World):Calls Tryz.prog 99 #[] w fun e w'=>e= .returned (.agg (iv zi))∧Al w w':=by
 go_enter Tryz.func99,Tryz.ntmps99
 go_wp2_with fail
 go_loopg [1,2,3,5] 64 (fun gk rv cv uv xv wr=>∃(i:Nat) (r c:Int) (u:Bool),gk+i=64∧xv= .int .i64 i∧rv= .int .i64 r∧cv= .int .i64 c∧uv= .bool u∧Hid (TL i=(r,c,u))∧DG wr w.heap.size (zl i)∧Al w wr)
 case atStart=>exact ⟨0,0,0,true,rfl,rfl,rfl,rfl,rfl,rfl,DG.new w (List.replicate 64 0) 25,(Al.refl w).alloc _⟩
 case round=>
  obtain ⟨i,r,c,u,hi,rfl,rfl,rfl,rfl,hst,hrow,hE⟩:=hrel
  by_cases hlt:i<64
  ·have hb:=aR i hlt
   rw [hst.out] at hb
   dsimp only at hb
   obtain ⟨hb1,hb2,hb3,hb4⟩:=hb
   have hcell:=hrow.cell i (by rw [aN i (by omega)];exact hlt)
   have hfree:=hrow.free i
   have hset:=aO i hlt
   rw [hst.out] at hset
   have hrow2:=hrow.set i (8*r+c)
   rw [hset] at hrow2
   have hE2:Al w (wr.setCell ⟨w.heap.size,i,none⟩ (.int .i64 (8*r+c))):=hE.setCell (Nat.le_refl _) _
   have hs:Hid (TL (i+1)=H8 (r,c,u)):=by unfold Hid;rw [←hst.out];rfl
   clear hset hst
   have fin:∀(r' c':Int)(u':Bool),H8 (r,c,u)=(r',c',u')→Hid (TL (i+1)=(r',c',u')):=fun r' c' u' h=>by rw [←h];exact hs
   clear hs
   have FIN:=AD fin
   clear fin
   have hi':gk-1+(i+1)=64:=by omega
   have HI:=AD hi'
   clear hi'
   have HR:=AD hrow2
   have HE:=AD hE2
   clear hrow2 hE2
   cases u
   ·by_cases h7:r=7
    ·subst h7
     go_wp2_with fail
     go_roundg (gk-1)
     case measure=>omega
     case rel=>exact ⟨i+1,_,_,_,HI.out,by go_num,rfl,rfl,rfl,FIN.out _ _ _ (by simp [H8]),HR.out,HE.out⟩
    by_cases h0:c=0
    ·subst h0
     go_wp2_with fail
     go_roundg (gk-1)
     case measure=>omega
     case rel=>exact ⟨i+1,_,_,_,HI.out,by go_num,rfl,rfl,rfl,FIN.out _ _ _ (by simp [H8];omega),by simpa using HR.out,by simpa using HE.out⟩
    go_wp2_with fail
    go_roundg (gk-1)
    case measure=>omega
    case rel=>exact ⟨i+1,_,_,_,HI.out,by go_num,rfl,rfl,rfl,FIN.out _ _ _ (by simp [H8,h7,h0]),HR.out,HE.out⟩
   by_cases h7:c=7
   ·subst h7
    go_wp2_with fail
    go_roundg (gk-1)
    case measure=>omega
    case rel=>exact ⟨i+1,_,_,_,HI.out,by go_num,rfl,rfl,rfl,FIN.out _ _ _ (by simp [H8]),HR.out,HE.out⟩
   by_cases h0:r=0
   ·subst h0
    go_wp2_with fail
    go_roundg (gk-1)
    case measure=>omega
    case rel=>exact ⟨i+1,_,_,_,HI.out,by go_num,rfl,rfl,rfl,FIN.out _ _ _ (by simp [H8];omega),by simpa using HR.out,by simpa using HE.out⟩
   go_wp2_with fail
   go_roundg (gk-1)
   case measure=>omega
   case rel=>exact ⟨i+1,_,_,_,HI.out,by go_num,rfl,rfl,rfl,FIN.out _ _ _ (by simp [H8,h7,h0]),HR.out,HE.out⟩
  obtain rfl:i=64:=by omega
  rw [aM] at hrow
  obtain ⟨t,hrow⟩:=hrow
  have hself:=setRow_self wr w.heap.size _ t _ hrow
  have hsz:(Tryz.prog.info? 25).map (·.size)=some (iv zi).size:=by rw [Dr,Vd];kernel_rfl
  have HS:=AD hsz
  have HSelf:=AD hself
  clear hsz hself
  have hh:=AD hrow
  clear hrow
  go_wp2_with (first
   | refine wpList_load_row rfl 25 _ rfl w.heap.size rfl t (iv zi) (0,0) _ hh.out Tryz.underlying25 rfl HS.out ?_|(refine wpList_store_row rfl 25 _ _ rfl w.heap.size (iv zi) rfl rfl t (iv zi) hh.out HS.out rfl (J6 _) ?_;rw [HSelf.out]))
  refine bodyPost_ret (results_cell_row rfl _ wr w.heap.size t (iv zi) (0,0) _ rfl hh.out Tryz.underlying25 rfl HS.out) rfl ?_
  exact ⟨rfl,hE⟩
theorem Vc(i:Nat)(h:i<64):(iv zi)[i]? =some (.int .i64 (zn i:Int)):=by
 rw [FY zi i (by rw [Vd];exact h)]
 congr 2
 simp [AK,zi,O5,List.getD,List.getElem?_map,List.getElem?_range h]
theorem Ky:∀i,i<64→zn i<64:=by decide+kernel
theorem Vf(i:Nat)(h:i<64):(zn i:Int)<64:=by have:=Ky i h;omega
def FH(l:List Int):List Int:=O5.map fun n=>AK l n
theorem Vg:O5.length=64:=by decide+kernel
theorem Cu(l:List Int):(FH l).length=64:=by rw [FH,List.length_map,Vg]
theorem GG(l:List Int)(i:Nat)(h:i<64):AK (FH l) i=AK l (zn i):=by
 simp [AK,FH,O5,List.getD,List.getElem?_map,List.getElem?_range h]
theorem Xz(w:World)(l:List Int)(hl:l.length=64):Calls Tryz.prog 65 #[.agg (iv l)] w fun e w'=>e= .returned (.agg (iv (FH l)))∧Al w w':=by
 go_enter Tryz.func65,Tryz.ntmps65
 go_wp2_with fail
 refine (Kz _).mono ?_
 rintro e w1 ⟨rfl,hE1⟩
 have hb:DG w1 w.heap.size l:=((DG.new w l 26).alloc _).ext hE1
 have ho:DG w1 (w.heap.size+1) (DB (FH l) 0):=by
  rw [MO,Cu]
  have h:=(DG.new (w.alloc (.cells (iv l) 26)) (List.replicate 64 0) 26).ext hE1
  simpa using h
 have hE:Al w w1:=(((Al.refl w).alloc _).alloc _).trans hE1
 clear hE1
 go_wp2_with fail
 go_loopg [6] 64 (fun gk xv wr=>∃(i:Nat),gk+i=64∧xv= .int .i64 i∧DG wr w.heap.size l∧DG wr (w.heap.size+1) (DB (FH l) i)∧Al w wr)
 case atStart=>exact ⟨0,rfl,rfl,hb,ho,hE⟩
 case round=>
  clear hb ho hE
  obtain ⟨i,hi,rfl,hb,ho,hE⟩:=hrel
  by_cases hlt:i<64
  ·have hz:=Vc i hlt
   have hzl:=Vf i hlt
   have hzl':=Ky i hlt
   have hcell:=hb.cell (zn i) (by omega)
   have hcell2:=ho.cell i (by rw [N5 _ _ (by rw [Cu];omega),Cu];exact hlt)
   have hfree:=ho.free i
   have ho2:=ho.set i (AK (FH l) i)
   rw [N6 _ _ (by rw [Cu];exact hlt),GG _ _ hlt] at ho2
   have HB:=AD (hb.setOther ⟨w.heap.size+1,i,none⟩ (.int .i64 (AK l (zn i))) (by simp))
   have HO:=AD ho2
   have HE:=AD (hE.setCell (a:=⟨w.heap.size+1,i,none⟩) (by simp) (.int .i64 (AK l (zn i))))
   have hi':gk-1+(i+1)=64:=by omega
   have HI:=AD hi'
   clear hi' ho2
   go_wp2_with fail
   go_roundg (gk-1)
   case measure=>omega
   case rel=>exact ⟨i+1,HI.out,by go_num,HB.out,HO.out,HE.out⟩
  obtain rfl:i=64:=by omega
  have ho':DG wr (w.heap.size+1) (FH l):=by have h:=N4 (FH l);rw [Cu] at h;rw [h] at ho;exact ho
  clear ho
  obtain ⟨t,ho⟩:=ho'
  have HSelf:=AD (setRow_self wr (w.heap.size+1) _ t _ ho)
  have HS:=AD (show (Tryz.prog.info? 26).map (·.size)=some (iv (FH l)).size by rw [Dr,Cu];kernel_rfl)
  have hh:=AD ho
  clear ho
  go_wp2_with (first
   | refine wpList_load_row rfl 26 _ rfl (w.heap.size+1) rfl t (iv (FH l)) (0,0) _ hh.out Tryz.underlying26 rfl HS.out ?_|(refine wpList_store_row rfl 26 _ _ rfl (w.heap.size+1) (iv (FH l)) rfl rfl t (iv (FH l)) hh.out HS.out rfl (J6 _) ?_;rw [HSelf.out]))
  refine bodyPost_ret (results_cell_row rfl _ wr (w.heap.size+1) t (iv (FH l)) (0,0) _ rfl hh.out Tryz.underlying26 rfl HS.out) rfl ?_
  exact ⟨rfl,hE⟩
def Xy(l:List Int)(k:Nat):List Int:=(List.range k).foldl (fun acc i=>acc.set (zn i) (AK l i)) (List.replicate 64 0)
def CX(l:List Int):List Int:=Xy l 64
theorem Kv(l:List Int)(k:Nat):Xy l (k+1)=(Xy l k).set (zn k) (AK l k):=by
 simp [Xy,List.range_succ,List.foldl_append]
theorem NJ(l:List Int)(k:Nat):(Xy l k).length=64:=by
 induction k with
 | zero=>rfl
 | succ k ih=>rw [Kv,List.length_set,ih]
theorem Dy(l:List Int):(CX l).length=64:=NJ l 64
theorem aP:∀i,i<64→∀j,j<64→zn i=zn j→i=j:=by decide+kernel
theorem Rf:∀j,j<64→O5.idxOf j<64∧zn (O5.idxOf j)=j:=by decide+kernel
theorem NI(l:List Int)(k:Nat)(hk:k≤64)(i:Nat)(hi:i<k):AK (Xy l k) (zn i)=AK l i:=by
 induction k with
 | zero=>omega
 | succ k ih=>
   rw [Kv]
   by_cases h:i=k
   ·subst h
    have hlt:zn i<(Xy l i).length:=by rw [NJ];exact Ky i (by omega)
    simp [AK,List.getD,hlt]
   have hne:¬zn k=zn i:=fun e=>h (aP k (by omega) i (by omega) e).symm
   have:=ih (by omega) (by omega)
   simp only [AK,List.getD,List.getElem?_set,if_neg hne] at this⊢
   exact this
theorem J8(l m:List Int)(hl:l.length=64)(hm:m.length=64)(h:∀i,i<64→AK l i=AK m i):l=m:=by
 apply List.ext_getElem (by omega)
 intro i h1 h2
 have:=h i (by omega)
 simpa [AK,List.getD,List.getElem?_eq_getElem h1,List.getElem?_eq_getElem h2] using this
theorem Il(l:List Int)(hl:l.length=64):FH (CX l)=l:=
 J8 _ _ (Cu _) hl fun i hi=>by rw [GG _ i hi];exact NI l 64 (by omega) i hi
theorem TC(l:List Int)(hl:l.length=64):CX (FH l)=l:=
 J8 _ _ (Dy _) hl fun j hj=>by
  obtain ⟨h1,h2⟩:=Rf j hj
  have h3:=NI (FH l) 64 (by omega) _ h1
  rw [GG _ _ h1,h2] at h3
  exact h3
theorem MB(w:World)(l:List Int)(hl:l.length=64):Calls Tryz.prog 67 #[.agg (iv l)] w fun e w'=>e= .returned (.agg (iv (CX l)))∧Al w w':=by
 go_enter Tryz.func67,Tryz.ntmps67
 go_wp2_with fail
 refine (Kz _).mono ?_
 rintro e w1 ⟨rfl,hE1⟩
 have hb:DG w1 w.heap.size l:=((DG.new w l 26).alloc _).ext hE1
 have ho:DG w1 (w.heap.size+1) (Xy l 0):=by
  have h:=(DG.new (w.alloc (.cells (iv l) 26)) (List.replicate 64 0) 26).ext hE1
  have e:(w.alloc (.cells (iv l) 26)).heap.size=w.heap.size+1:=by simp
  rw [e] at h
  exact h
 have hE:Al w w1:=(((Al.refl w).alloc _).alloc _).trans hE1
 clear hE1
 go_wp2_with fail
 go_loopg [6] 64 (fun gk xv wr=>∃(i:Nat),gk+i=64∧xv= .int .i64 i∧DG wr w.heap.size l∧DG wr (w.heap.size+1) (Xy l i)∧Al w wr)
 case atStart=>exact ⟨0,rfl,rfl,hb,ho,hE⟩
 case round=>
  clear hb ho hE
  obtain ⟨i,hi,rfl,hb,ho,hE⟩:=hrel
  by_cases hlt:i<64
  ·have hz:=Vc i hlt
   have hzl:=Vf i hlt
   have hzl':=Ky i hlt
   have hcell:=hb.cell i (by omega)
   have hcell2:=ho.cell (zn i) (by rw [NJ];exact hzl')
   have hfree:=ho.free (zn i)
   have ho2:=ho.set (zn i) (AK l i)
   rw [←Kv] at ho2
   have HB:=AD (hb.setOther ⟨w.heap.size+1,zn i,none⟩ (.int .i64 (AK l i)) (by simp))
   have HO:=AD ho2
   have HE:=AD (hE.setCell (a:=⟨w.heap.size+1,zn i,none⟩) (by simp) (.int .i64 (AK l i)))
   have hi':gk-1+(i+1)=64:=by omega
   have HI:=AD hi'
   clear hi' ho2
   go_wp2_with fail
   go_roundg (gk-1)
   case measure=>omega
   case rel=>exact ⟨i+1,HI.out,by go_num,HB.out,HO.out,HE.out⟩
  obtain rfl:i=64:=by omega
  obtain ⟨t,ho⟩:=ho
  have ho':wr.heap[w.heap.size+1]? =some (.cells (iv (CX l)) t (0,0)):=ho
  have HSelf:=AD (setRow_self wr (w.heap.size+1) _ t _ ho')
  have HS:=AD (show (Tryz.prog.info? 26).map (·.size)=some (iv (CX l)).size by rw [Dr,Dy];kernel_rfl)
  have hh:=AD ho'
  clear ho ho'
  go_wp2_with (first
   | refine wpList_load_row rfl 26 _ rfl (w.heap.size+1) rfl t (iv (CX l)) (0,0) _ hh.out Tryz.underlying26 rfl HS.out ?_|(refine wpList_store_row rfl 26 _ _ rfl (w.heap.size+1) (iv (CX l)) rfl rfl t (iv (CX l)) hh.out HS.out rfl (J6 _) ?_;rw [HSelf.out]))
  refine bodyPost_ret (results_cell_row rfl _ wr (w.heap.size+1) t (iv (CX l)) (0,0) _ rfl hh.out Tryz.underlying26 rfl HS.out) rfl ?_
  exact ⟨rfl,hE⟩
end Go.Proofs.YtohacgmhmbijmaaGreatDoor
namespace Go.Proofs.YtohacgmhmbijmaaGreatDoor
attribute [local irreducible] Region.wanted
set_option linter.unusedVariables false
set_option maxRecDepth 100000
set_option maxHeartbeats 8000000
abbrev CF:=Int×Int×Int
def EI(l:List CF):List Int:=l.flatMap fun x=>[x.1,x.2.1,x.2.2]
theorem Wy(l m:List CF):EI (l++m)=EI l++EI m:=by simp [EI]
theorem J3(l:List CF)(x:CF):EI (l++[x])=EI l++[x.1,x.2.1,x.2.2]:=by simp [EI]
theorem Qp:∀(l:List CF)(k:Nat)(x:CF),l[k]? =some x→((EI l).drop (k*3)).take 3=[x.1,x.2.1,x.2.2]
 | [],k,x,h=>by simp at h
 | y::l,0,x,h=>by
   obtain rfl:y=x:=by simpa using h
   simp [EI]
 | y::l,k+1,x,h=>by
   have:=Qp l k x (by simpa using h)
   rw [show (k+1)*3=k*3+3 by omega]
   simp only [EI,List.flatMap_cons] at*
   rw [List.drop_append,List.drop_of_length_le (by simp)]
   simpa using this
theorem MR:∀{l m:List CF},EI l=EI m→l=m
 | [],[],_=>rfl
 | [],y::m,h=>by simp [EI] at h
 | x::l,[],h=>by simp [EI] at h
 | x::l,y::m,h=>by
   simp only [EI,List.flatMap_cons,List.cons_append,List.nil_append,List.cons.injEq] at h
   obtain ⟨h1,h2,h3,h4⟩:=h
   have:=MR (l:=l) (m:=m) h4
   rw [this]
   congr 1
   exact Prod.ext h1 (Prod.ext h2 h3)
def GU(r:Nat)(n:Int):CF:=(((r*16+sz n:Nat):Int),(sz n:Int),sv n)
def Eh:CF:=(240,0,0)
def Wv:CF:=(0,0,0)
def Gq:Nat→List Int→List CF
 | r,[]=>if 0<r then [Wv] else []
 | r,n::l=>if n=0 then Gq (r+1) l else List.replicate (r/16) Eh++(GU (r%16) n::Gq 0 l)
def BV(before:Int)(z:List Int):List CF:=GU 0 (AK z 0-before)::Gq 0 (z.drop 1)
theorem RR(n:Int)(h: -2048<n∧n<2048):sz n≤11:=JN _ 11 (by omega)
theorem aF(n:Int)(h:n≠0):1≤sz n:=by
 obtain ⟨_,h2⟩:=Fs n.natAbs
 exact (h2 (by omega)).1
theorem Xm:sz 0=0:=by simp [sz,IO]
theorem Xj:sv 0=0:=by simp [sv]
theorem My:∀(l:List Int)(r:Nat),(Gq r l).length≤r+l.length
 | [],r=>by
   rw [Gq];split<;>simp
   omega
 | n::l,r=>by
   rw [Gq]
   split
   ·have:=My l (r+1);simp only [List.length_cons];omega
   have:=My l 0
   simp only [List.length_append,List.length_replicate,List.length_cons]
   omega
theorem Kg(before:Int)(z:List Int)(h:z.length=64):1≤(BV before z).length∧(BV before z).length≤64:=by
 have:=My (z.drop 1) 0
 simp only [BV,List.length_cons,List.length_drop] at*
 omega
end Go.Proofs.YtohacgmhmbijmaaGreatDoor
namespace Go.Proofs.YtohacgmhmbijmaaGreatDoor
attribute [local irreducible] Region.wanted
open Go.RowKit
set_option linter.unusedVariables false
set_option maxRecDepth 100000
set_option maxHeartbeats 8000000
theorem Nc(m0:Int)(m1:Int)(m2:Int)(w:World):(Instr.build 155 #[(0, .int .i64 m0),(1, .int .i64 m1),(2, .int .i64 m2)]).run Tryz.prog w= .ok (.agg #[.int .i64 m0, .int .i64 m1, .int .i64 m2]) w:=by kernel_rfl
theorem Qa(m0:Int)(w:World):(Instr.build 155 #[(0, .int .i64 m0)]).run Tryz.prog w= .ok (.agg #[.int .i64 m0, .int .i64 0, .int .i64 0]) w:=by kernel_rfl
def Vo(n:Int):Bool:=decide (-2047≤n)&&decide (n≤2047)
theorem Fz(n:Int):Vo n=true↔ -2047≤n∧n≤2047:=by simp [Vo]
theorem DQ(n:Int)(w:World):Calls Tryz.prog 122 #[.int .i64 n] w fun e w'=>e= .returned (.bool (Vo n))∧w=w':=by
 go_enter Tryz.func122,Tryz.ntmps122
 repeat' (first
  | go_skip|((first|(with_reducible refine JG ?_)|(with_reducible refine QW ?_));(first|go_big_want|go_step);go_step)|((with_reducible refine An _ (.pick _ _ _) ?_);first|(refine BJ rfl AA ?_;go_step)|(refine BC rfl AA ?_;go_step))|((refine AS 4 ?_);(refine Cg _ (V.geq rfl rfl) AA (fun hB=>?_) (fun hB=>?_)<;>(try exact AW)<;>go_step))|((with_reducible refine An _ (.binOp .leq _ _ _ _) ?_);(refine As AA (V.leq rfl rfl) ?_;go_step))|(refine AG ?_;go_step)|fail)
 all_goals (go_ret;exact ⟨DD (by unfold Vo;simp;omega),rfl⟩)
theorem Z7(r k:Nat)(hr:r≤15)(hk:k≤12):bits .or .i64 ((r:Int)*2^4) (k:Int)=((r*16+k:Nat):Int):=by
 rw [show (r:Int)*2^4=((r*16:Nat):Int) by push_cast;omega,bits_or_i64_nat _ _ (by omega) (by omega)]
 congr 1
 rw [show r*16=2^4*r by omega]
 exact (Nat.two_pow_add_eq_or_of_lt (i:=4) (by omega) r).symm
theorem Lv(w0:World)(r:Nat)(n:Int)(hr:r≤15)(h0: -4096<n)(h1:n<4096):
 Calls Tryz.prog 136 #[.int .i64 r, .int .i64 n] w0 fun e w=>e= .returned (.agg #[.int .i64 (GU r n).1, .int .i64 (GU r n).2.1, .int .i64 (GU r n).2.2])∧Al w0 w:=by
 have hs:=RQ n ⟨h0,h1⟩
 have HT:=AD (show GU r n=(((r*16+sz n:Nat):Int),(sz n:Int),sv n) from rfl)
 obtain ⟨k,hk⟩:∃k,sz n=k:=⟨_,rfl⟩
 obtain ⟨v,hv⟩:∃v,sv n=v:=⟨_,rfl⟩
 rw [hk,hv] at HT
 have HO:=AD (Z7 r k hr (by omega))
 have HK:=AD hk
 have HV:=AD hv
 clear hk hv hs
 have hS:=St.start w0
 go_enter Tryz.func136,Tryz.ntmps136
 repeat' (first
  | (refine A3 144 ?_);refine A4 AA Tryz.call144 (Mr n _ h0 h1) ?_;rintro e w' ⟨rfl,rfl⟩;rw [HK.out,HV.out];refine Ae ?_;go_step|(refine AS 17 ?_);(refine Ak (.int _ (((r*16+k:Nat):Int))) (V.as (V.or rfl rfl) (by exact HO.out)) (by kernel_rfl) ?_;go_step)|refine X0 ?_|refine X6 ?_|refine ZA ?_|(refine AS 20 ?_);(refine As AA (V.build (vs:=[(0,_),(1,_),(2,_)]) rfl (Nc _ _ _)) ?_;go_step)|refine II 4 ?_;clear hS;intro g4 w hS|refine H9 ?_;clear hS;intro w hS|refine AG ?_;go_step|fail)
 refine BW rfl (AC.blk hS rfl (AP (n:=3) rfl) AJ rfl) rfl ?_
 exact ⟨(by rw [HT.out];first|done|rfl),hS.1⟩
theorem EG(w0:World)(before:Int)(l:List Int)(hl:Ap l 64)(hb: -2047≤before∧before≤2047)(hz:∀i,i<64→ -2047≤AK l i∧AK l i≤2047):
 Calls Tryz.prog 124 #[.int .i64 before, .agg (iv l)] w0 fun e w=>∃ad c,e= .returned (.slice ad (BV before (FH l)).length c)∧St w0 w [own 155 3 ad (BV before (FH l)).length c ((EI (BV before (FH l))).map (Value.int .i64))]:=by
 have hlz:=Cu l
 have hzz:∀i,i<64→ -2047≤AK (FH l) i∧AK (FH l) i≤2047:=fun i hi=>by rw [GG _ i hi];exact hz _ (Ky i hi)
 obtain ⟨z,hze⟩:∃z,FH l=z:=⟨_,rfl⟩
 have HZ:=AD hze
 rw [hze] at hlz hzz⊢
 have HZl:Ap z 64:=hlz
 have HZZ:=AD hzz
 have hz0:=hzz 0 (by omega)
 have hll:l.length=64:=hl
 obtain ⟨all,hall⟩:∃a,BV before z=a:=⟨_,rfl⟩
 rw [hall]
 have HAll:=AD hall
 have hzl:=AD hlz
 clear hze hlz hzz hall hz
 have hS:=St.start w0
 go_enter Tryz.func124,Tryz.ntmps124
 repeat' (first
  | (refine A3 65 ?_);refine A4 AA Tryz.call65 (Xz _ l hll) ?_;rintro e w ⟨rfl,hE⟩;rw [HZ.out];replace hS:=hS.ext hE;clear hE;refine Ae ?_;go_step|(refine A3 136 ?_);refine A4 AA Tryz.call136 (Lv _ 0 (AK z 0-before) (by omega) (by omega) (by omega)) (Gb hS ?_);clear hS;intro w hS;go_step|refine bO 16 ?_;clear hS;intro g16 w hS|refine X0 ?_|refine ZU 11 ?_|refine WW ?_|refine Zf ?_|refine TV ?_|refine MD 3 ?_;clear hS;intro g3 w hS|refine IK ?_|refine Ew ?_;clear hS;intro w hS|refine ZG ?_|refine AG ?_;go_step|fail)
 rw [show 0+1*1=1 from rfl,show 64-1=63 from rfl]
 replace hS:St w0 w [own 155 3 (some ⟨g16,0,none⟩) 1 1 ((EI [GU 0 (AK z 0-before)]).map (Value.int .i64)),arr g3 64 z]:=hS
 go_loopg [5,6,19] 63 (fun gk ov rv kv w=>∃(k r m:Nat) (o:List CF) (a':Option Addr) (c':Nat),gk+k=63∧kv= .int .i64 k∧rv= .int .i64 r∧ov= .slice a' m c'∧m+r≤k+1∧Hid (o.length=m)∧Hid (all=o++Gq r (z.drop (k+1)))∧St w0 w [own 155 3 a' m c' ((EI o).map (Value.int .i64)),arr g3 64 z])
 case atStart=>exact ⟨0,0,1,[GU 0 (AK z 0-before)],_,_,rfl,rfl,rfl,rfl,by omega,AD rfl,AD (by rw [←HAll.out];rfl),hS⟩
 case round=>
  clear hS
  obtain ⟨k,r,m,o,a',c',hk,rfl,rfl,rfl,hmr,HO,HA,hS⟩:=hrel
  by_cases hlt:k<63
  ·have hdrop:z.drop (k+1)=AK z (k+1)::z.drop (k+2):=by
    rw [List.drop_eq_getElem_cons (by rw [hzl.out];omega)]
    simp [AK,List.getD,hzl.out,show k+1<64 by omega]
   have hn:=HZZ.out (k+1) (by omega)
   have ha:=HA.out
   rw [hdrop,Gq] at ha
   obtain ⟨n,hne⟩:∃n,AK z (k+1)=n:=⟨_,rfl⟩
   rw [hne] at ha hn
   have HN:Hid (AK z (1+k)=n):=AD (by rw [←hne];congr 1;omega)
   clear hdrop hne HA
   by_cases h0:n=0
   ·subst h0
    rw [if_pos rfl] at ha
    have HA2:=AD ha
    clear ha
    repeat' (first
     | (refine AS 22 ?_);refine Ag ?_;apply BX hS 3 _ rfl _ _ rfl (AH rfl) _ _;(case hp=>exact AJ);(case hi=>omega);rw [HN.out];refine AB ?_;go_step|refine X0 ?_|refine X2 ?_|refine Vl 21 ?_|refine TT ?_|refine X7 ?_|refine AG ?_;go_step|fail)
    go_roundg (gk-1)
    case measure=>omega
    case rel=>exact ⟨k+1,r+1,m,o,a',c',by omega,by go_num,by go_num,rfl,by omega,HO,HA2,hS⟩
   rw [if_neg h0] at ha
   have HA2:=AD ha
   clear ha
   repeat' (first
    | (refine AS 22 ?_);refine Ag ?_;apply BX hS 3 _ rfl _ _ rfl (AH rfl) _ _;(case hp=>exact AJ);(case hi=>omega);rw [HN.out];refine AB ?_;go_step|refine X0 ?_|refine X2 ?_|refine Vl 21 ?_|refine TT ?_|refine AG ?_;go_step|fail)
   obtain ⟨gk1,hgk1⟩:∃x,x=gk:=⟨_,rfl⟩
   subst hgk1
   go_loopg [5,6] r (fun gk ov rv w=>∃(m:Nat) (o:List CF) (a':Option Addr) (c':Nat),rv= .int .i64 gk∧ov= .slice a' m c'∧m+gk≤k+1∧Hid (o.length=m)∧Hid (all=o++(List.replicate (gk/16) Eh++(GU (gk%16) n::Gq 0 (z.drop (k+2)))))∧St w0 w [own 155 3 a' m c' ((EI o).map (Value.int .i64)),arr g3 64 z])
   case atStart=>exact ⟨m,o,a',c',rfl,rfl,hmr,HO,HA2,hS⟩
   case round=>
    clear hS HO HA2
    obtain ⟨m,o,a',c',rfl,rfl,hmr,HO,HA2,hS⟩:=hrel
    by_cases hbig:15<gk
    ·have HA3:Hid (all=(o++[Eh])++(List.replicate ((gk-16)/16) Eh++(GU ((gk-16)%16) n::Gq 0 (z.drop (k+2))))):=AD (by
      rw [HA2.out,show gk/16=(gk-16)/16+1 by omega,show gk%16=(gk-16)%16 by omega,List.replicate_succ];simp)
     have HF:=AD (show EI (o++[Eh])=EI o++[240,0,0] from J3 o Eh)
     clear HA2
     repeat' (first
      | refine X0 ?_|refine Gv ?_|refine WW ?_|(refine AS 32 ?_);(refine As AA (V.build (vs:=[(0,_)]) rfl (Qa _)) ?_;go_step)|refine QR 33 ?_;clear hS;intro g33 w hS|refine TS 34 ?_;clear hS;intro ad34 c34 w hS|refine AG ?_;go_step|fail)
     go_roundg (gk-16)
     case measure=>omega
     case rel=>exact ⟨m+1,o++[Eh],ad34,c34,by go_num,rfl,by omega,AD (by rw [List.length_append,HO.out];rfl),HA3,(by rw [HF.out];exact hS.sub AV)⟩
    have HA3:Hid (all=(o++[GU gk n])++Gq 0 (z.drop (k+2))):=AD (by
     rw [HA2.out,show gk/16=0 by omega,show gk%16=gk by omega];simp)
    have HF:=AD (J3 o (GU gk n))
    clear HA2
    repeat' (first
     | (refine A3 136 ?_);refine A4 AA Tryz.call136 (Lv _ gk n (by omega) (by omega) (by omega)) (Gb hS ?_);clear hS;intro w hS;go_step|refine X0 ?_|refine Gv ?_|refine X7 ?_|refine QR 39 ?_;clear hS;intro g39 w hS|refine TS 40 ?_;clear hS;intro ad40 c40 w hS|refine AG ?_;go_step|fail)
    go_roundg (gk1-1)
    case measure=>omega
    case rel=>exact ⟨k+1,0,m+1,o++[GU gk n],ad40,c40,by omega,by go_num,rfl,rfl,by omega,AD (by rw [List.length_append,HO.out];rfl),HA3,(by rw [HF.out];exact hS.sub AV)⟩
  obtain rfl:k=63:=by omega
  have ha:=HA.out
  rw [show z.drop (63+1)=[] by rw [List.drop_eq_nil_iff,hzl.out];omega,Gq] at ha
  by_cases h0:0<r
  ·rw [if_pos h0] at ha
   have HL:=AD (show all.length=m+1 by rw [ha,List.length_append,HO.out];rfl)
   have HF:=AD (show EI all=EI o++[0,0,0] by rw [ha,Wy];rfl)
   clear ha HA
   repeat' (first
    | refine X0 ?_|refine X2 ?_|refine Gv ?_|(refine AS 45 ?_);(refine As AA (V.build (vs:=[(0,_)]) rfl (Qa _)) ?_;go_step)|refine QR 46 ?_;clear hS;intro g46 w hS|refine TS 47 ?_;clear hS;intro ad47 c47 w hS|refine AG ?_;go_step|fail)
   go_ret
   refine ⟨ad47,c47,(by rw [HL.out];first|done|rfl),?_⟩
   rw [HL.out,HF.out]
   exact hS.sub AV
  rw [if_neg h0,List.append_nil] at ha
  have HL:=AD (show all.length=m by rw [ha,HO.out])
  have HF:=AD (show EI all=EI o by rw [ha])
  clear ha HA
  repeat' (first
   | refine X0 ?_|refine X2 ?_|refine Gv ?_|refine AG ?_;go_step|fail)
  go_ret
  refine ⟨a',c',(by rw [HL.out];first|done|rfl),?_⟩
  rw [HL.out,HF.out]
  exact hS.sub AV
def Dd(l:List Int):Bool:=Bx l (-2047) 2047
def FO(before:Int)(l:List Int):Int:=if Vo before=true∧Dd l=true then 0 else 1
def FP(before:Int)(l:List Int):List CF:=if FO before l=0 then BV before (FH l) else []
theorem RU{before:Int}{l:List Int}(hl:l.length=64)(h:FO before l=0):(-2047≤before∧before≤2047)∧∀i,i<64→ -2047≤AK l i∧AK l i≤2047:=by
 unfold FO at h
 split at h
 ·rename_i h1
  exact ⟨(Fz _).1 h1.1,fun i hi=>(BL l (-2047) 2047).1 h1.2 i (by omega)⟩
 cases h
theorem Xr{before:Int}{l:List Int}(hl:l.length=64)(h: -2047≤before∧before≤2047)(h2:∀i,i<64→ -2047≤AK l i∧AK l i≤2047):FO before l=0:=by
 unfold FO
 rw [if_pos ⟨(Fz _).2 h,(BL l (-2047) 2047).2 fun i hi=>h2 i (by omega)⟩]
theorem I1(n:Int)(w:World):Calls Tryz.prog 137 #[.int .i64 n] w fun e w'=>e= .returned (.bool (decide (n< -2047)||decide (2047<n)))∧w=w':=by
 go_enter Tryz.func137,Tryz.ntmps137
 repeat' (first
  | (refine A3 122 ?_);refine A4 AA Tryz.call122 (DQ n _) ?_;rintro e w' ⟨rfl,rfl⟩;refine Ae ?_;go_step|refine X0 ?_|refine NW ?_|refine AG ?_;go_step|fail)
 all_goals (go_ret;exact ⟨DD (by rw [Bool.eq_iff_iff];unfold Vo;simp<;>omega),rfl⟩)
theorem M9(w0:World)(before:Int)(l:List Int)(hl:Ap l 64):
 Calls Tryz.prog 129 #[.int .i64 before, .agg (iv l)] w0 fun e w=>∃ad c,e= .returned (.tuple #[.slice ad (FP before l).length c, .int .i64 (FO before l)])∧St w0 w [own 155 3 ad (FP before l).length c ((EI (FP before l)).map (Value.int .i64))]:=by
 have hll:l.length=64:=hl
 have hS:=St.start w0
 have hk:=Tryz.call137
 obtain ⟨b1,hb1⟩:∃b,Vo before=b:=⟨_,rfl⟩
 obtain ⟨b2,hb2⟩:∃b,Dd l=b:=⟨_,rfl⟩
 have hnot:(l.any fun n=>decide (n< -2047)||decide (2047<n))= !b2:=by rw [←hb2,Dd,Bx,Bool.not_not]
 have HB1:=AD hb1
 have HN:=AD hnot
 by_cases hbad:b1=true∧b2=true
 case neg=>
  have HE:=AD (show FO before l=1 by unfold FO;rw [if_neg (by rw [hb1,hb2];exact hbad)])
  have HL:=AD (show FP before l=[] by unfold FP;rw [if_neg (by rw [HE.out];decide)])
  clear hb1 hb2 hnot
  cases b1
  case false=>
   clear hbad HN
   go_enter Tryz.func129,Tryz.ntmps129
   repeat' (first
    | (refine A3 122 ?_);refine A4 AA Tryz.call122 (DQ before _) ?_;rintro e w' ⟨rfl,rfl⟩;rw [HB1.out];refine Ae ?_;go_step|go_skip|refine X0 ?_|refine FJ ?_|refine Jk 8 ?_ ?_<;>intro hB<;>(try exact JX hB)<;>go_step|refine MD 3 ?_;clear hS;intro g3 w hS|refine AG ?_;go_step|fail)
   refine AM (xs:=[_,_]) rfl (.cons (AC.tmp rfl) (.cons (AC.tmp rfl) (.nil))) (by simp) rfl ?_
   refine ⟨none,0,(by rw [HE.out,HL.out];first|done|rfl),?_⟩
   rw [HL.out]
   exact (St.of_ext hS.1).nil _ _
  case true=>
   have hb2:b2=false:=by cases b2<;>simp_all
   subst hb2
   clear hbad
   go_enter Tryz.func129,Tryz.ntmps129
   repeat' (first
    | (refine A3 122 ?_);refine A4 AA Tryz.call122 (DQ before _) ?_;rintro e w' ⟨rfl,rfl⟩;rw [HB1.out];refine Ae ?_;go_step|(refine A3 76 ?_);refine A4 AA Tryz.call76 (BG _ _ l (hS.isl AJ (by decide)) 137 #[] (fun n=>decide (n< -2047)||decide (2047<n)) hk (fun n=>I1 n _)) ?_;rintro e w' ⟨rfl,rfl⟩;rw [HN.out];refine Ae ?_;go_step|refine X0 ?_|refine Gz ?_|refine Jk 8 ?_ ?_<;>intro hB<;>(try exact JX hB)<;>go_step|refine Zf ?_|refine MD 3 ?_;clear hS;intro g3 w hS|refine AG ?_;go_step|fail)
   refine AM (xs:=[_,_]) rfl (.cons (AC.tmp rfl) (.cons (AC.tmp rfl) (.nil))) (by simp) rfl ?_
   refine ⟨none,0,(by rw [HE.out,HL.out];first|done|rfl),?_⟩
   rw [HL.out]
   exact (St.of_ext hS.1).nil _ _
 ·obtain ⟨rfl,rfl⟩:=hbad
  have HE:=AD (show FO before l=0 by unfold FO;rw [if_pos ⟨hb1,hb2⟩])
  have HL:=AD (show FP before l=BV before (FH l) by unfold FP;rw [if_pos HE.out])
  obtain ⟨q1,q2⟩:=RU hll HE.out
  have Q2:=AD q2
  clear hb1 hb2 hnot q2
  go_enter Tryz.func129,Tryz.ntmps129
  repeat' (first
   | (refine A3 122 ?_);refine A4 AA Tryz.call122 (DQ before _) ?_;rintro e w' ⟨rfl,rfl⟩;rw [HB1.out];refine Ae ?_;go_step|(refine A3 76 ?_);refine A4 AA Tryz.call76 (BG _ _ l (hS.isl AJ (by decide)) 137 #[] (fun n=>decide (n< -2047)||decide (2047<n)) hk (fun n=>I1 n _)) ?_;rintro e w' ⟨rfl,rfl⟩;rw [HN.out];refine Ae ?_;go_step|(refine A3 124 ?_);refine A4 AA Tryz.call124 (EG _ before l hl q1 Q2.out) ?_;rintro e w ⟨ad2,c2,rfl,hS2⟩;replace hS:=hS.call1 hS2;clear hS2;refine Ae ?_;go_step|refine X0 ?_|refine Gz ?_|refine Jk 8 ?_ ?_<;>intro hB<;>(try exact JX hB)<;>go_step|refine Zf ?_|refine MD 3 ?_;clear hS;intro g3 w hS|refine IK ?_|refine AG ?_;go_step|fail)
  refine AM (xs:=[_,_]) rfl (.cons (AC.tmp rfl) (.cons (AC.tmp rfl) (.nil))) (by simp) rfl ?_
  refine ⟨ad2,c2,(by rw [HE.out,HL.out];first|done|rfl),?_⟩
  rw [HL.out]
  exact hS.sub AV
def A9(l:List Int)(n:Nat):Bool:=(List.range n).all fun k=>Dd (Bm l 64 k)
theorem NX(l:List Int)(n:Nat):A9 l (n+1)=(A9 l n&&Dd (Bm l 64 n)):=by
 unfold A9;rw [List.range_succ,List.all_append];simp
theorem DP{l:List Int}{n k:Nat}(h:A9 l n=true)(hk:k<n):Dd (Bm l 64 k)=true:=by
 unfold A9 at h
 rw [List.all_eq_true] at h
 exact h k (List.mem_range.2 hk)
theorem PJ{l:List Int}{n k:Nat}(hk:k<n)(h:Dd (Bm l 64 k)=false):A9 l n=false:=by
 cases e:A9 l n
 ·rfl
 rw [DP e hk] at h;cases h
def Bb(l:List Int)(n:Nat):Int:=if 400<n then 2 else if A9 l n then 0 else 1
end Go.Proofs.YtohacgmhmbijmaaGreatDoor
