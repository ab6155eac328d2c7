/- What the laws FrameAlone FrameGray FrameNear FrameFlat TopScale TopMirror need, part 6. -/
import Derived.Test.YtohacgmhmbijmaaGreatDoorBaseNZ1
import Derived.Test.YtohacgmhmbijmaaGreatDoorBaseNZ2
import Derived.Test.YtohacgmhmbijmaaGreatDoorBaseNZ3
import Derived.Test.YtohacgmhmbijmaaGreatDoorBaseNZ4
import Derived.Test.YtohacgmhmbijmaaGreatDoorBaseNZ5
import Derived.Laws.Bits64b
import Derived.Shelf.Small.Bits
import Derived.Shelf.Strconv.Itoa0
import Derived.Shelf.Strings.Search1
import Derived.Shelf.Bytes.SlIndexSmall
import Derived.Ground.SlbNamesProg
import Derived.Shelf.Bytes.SlCountOne
import Derived.Shelf.Bytes.SlIndexAt
import Derived.Shelf.Bytes.SlSearch0
import Derived.Shelf.Bytes.SlSearch1
import Derived.Shelf.Bytes.SlSearch2
import Derived.Shelf.Bytes.SlIndexWhole
import Derived.Shelf.LaysM
import Derived.Shelf.Bytes.SlCountWhole
import Derived.Shelf.Bytes.SlSplit
import Derived.Ground.SlbCloneProg
import Derived.Shelf.Bytes.SlClone
import Derived.Shelf.Bytes.SlEqualAll
import Derived.Shelf.Bytes.Small
import Derived.Shelf.Bytes.IndexByte
import Derived.Test.YtohacgmhmbijmaaGreatDoorProg
import Derived.Lib.ItoaNum
namespace Go.Proofs.YtohacgmhmbijmaaGreatDoor
attribute [local irreducible] Region.wanted
open Go.RowKit
set_option linter.unusedVariables false
set_option maxRecDepth 100000
set_option maxHeartbeats 8000000
theorem Pd(n m:Nat)(h:n≤m):2^n≤2^m:=Nat.pow_le_pow_right (by omega) h
theorem iX(A v width:Nat)(hA:A<128)(hw:width≤24)(hv:v<2^width):bits .or .u64 (IntKind.u64.wrap ((A:Int)*2^width)) (v:Int)=((A*2^width+v:Nat):Int):=by
 have h1:A*2^width<128*16777216:=by
  have h2:=Pd width 24 hw
  have h3:A*2^width≤127*2^24:=Nat.mul_le_mul (by omega) h2
  omega
 have h4:=Nat.lt_of_lt_of_le hv (Pd width 24 hw)
 have e1:IntKind.u64.wrap ((A:Int)*2^width)=((A*2^width:Nat):Int):=by
  rw [show (A:Int)*2^width=((A*2^width:Nat):Int) by push_cast;rfl]
  generalize A*2^width=x at h1
  simp [IntKind.wrap,IntKind.signed,IntKind.bits]
  omega
 rw [e1,bits_or_u64_nat _ _ (by omega) (by omega)]
 congr 1
 rw [←Nat.shiftLeft_eq,Nat.shiftLeft_add_eq_or_of_lt hv]
theorem cg(N R:Nat)(hN:N<18446744073709551616)(hR:R<64):bits .and .u64 (N:Int) (IntKind.u64.wrap (IntKind.u64.wrap ((2:Int)^R)-1))=((N%2^R:Nat):Int):=by
 have h1:2^R≤2^63:=Pd R 63 (by omega)
 have h0:0<2^R:=Nat.two_pow_pos R
 have e1:IntKind.u64.wrap (IntKind.u64.wrap ((2:Int)^R)-1)=((2^R-1:Nat):Int):=by
  rw [show (2:Int)^R=((2^R:Nat):Int) by push_cast;rfl]
  generalize 2^R=x at h1 h0
  simp [IntKind.wrap,IntKind.signed,IntKind.bits]
  omega
 rw [e1,bits_and_u64_nat _ _ hN (by omega),Nat.and_two_pow_sub_one_eq_mod]
def wr(g:Nat)(bs:List Bool):Au:=gv fun x:Option Addr×Nat=>
 [blk g [.slice x.1 (bs.length/8) x.2, .int .u64 (Fr (bs.drop (8*(bs.length/8))):Nat), .int .i64 (bs.length%8:Nat)],
  own 5 1 x.1 (bs.length/8) x.2 (bv (Ch (bs.length/8) bs))]
theorem Pg(W w:World)(rs rs':List Au)(g:Nat)(bs:List Bool)(width value:Nat)(hS:St W w rs)(hp:AW (wr g bs) rs rs')(hw:width≤24)(hv:value<2^width)(hb:bs.length+width≤1099511627776):
 Calls Tryz.prog 111 #[.pointer (some ⟨g,0,none⟩), .int .i64 width, .int .i64 value] w fun e w'=>e= .returned (.tuple #[])∧St W w' (wr g (bs++Ax width value)::rs'):=by
 obtain ⟨⟨ad,c⟩,hS⟩:=(hS.pull hp).open
 have hv24:value<16777216:=Nat.lt_of_lt_of_le hv (Nat.pow_le_pow_right (n:=2) (by omega) hw)
 have hrl:(bs.drop (8*(bs.length/8))).length=bs.length%8:=by simp;omega
 have hr8:Fr (bs.drop (8*(bs.length/8)))<128:=by
  have h1:=Il (bs.drop (8*(bs.length/8)))
  rw [hrl] at h1
  exact Nat.lt_of_lt_of_le h1 (Nat.pow_le_pow_right (n:=2) (j:=7) (by omega) (by omega))
 dsimp only [List.cons_append,List.nil_append] at hS
 generalize hA:Fr (bs.drop (8*(bs.length/8)))=A at*
 generalize hM:bs.length%8=M at*
 have hm8:M<8:=by omega
 have HOR:=AD (iX A value width (by omega) hw hv)
 go_enter Tryz.func111,Tryz.ntmps111
 go_wp2_with (first
  | ((with_reducible refine Ak _ (.load 169 _) ?_);first|(refine BF AA (AZ hS 169 _ rfl _ _ rfl (AK rfl) _ AM _ (by rfl) ?_);refine AJ (by (simp only [Act.put,List.setIfInBounds_toArray,List.set_cons_zero,List.set_cons_succ]);exact rfl) ?_)|(refine BF AA (Al hS 169 _ rfl _ _ rfl (AK rfl) _ _ _ _ _ AM _ (by with_reducible assumption) ?_);refine AJ (by (simp only [Act.put,List.setIfInBounds_toArray,List.set_cons_zero,List.set_cons_succ]);exact rfl) ?_)|(refine BF AA (Aj hS 169 _ rfl _ rfl (AK rfl) _ (by with_reducible assumption) ?_);refine AJ (by (simp only [Act.put,List.setIfInBounds_toArray,List.set_cons_zero,List.set_cons_succ]);exact rfl) ?_))|refine b6 ?_;clear hS;intro w hS|((with_reducible refine Ak _ (.load 3 _) ?_);first|(refine BF AA (Bh hS 3 _ rfl _ _ rfl (AK rfl) _ _ AM (by omega) ?_);refine AJ (by (simp only [Act.put,List.setIfInBounds_toArray,List.set_cons_zero,List.set_cons_succ]);exact rfl) ?_)|(refine BF AA (AZ hS 3 _ rfl _ _ rfl (AK rfl) _ AM _ (by rfl) ?_);refine AJ (by (simp only [Act.put,List.setIfInBounds_toArray,List.set_cons_zero,List.set_cons_succ]);exact rfl) ?_)|(refine BF AA (Al hS 3 _ rfl _ _ rfl (AK rfl) _ _ _ _ _ AM _ (by with_reducible assumption) ?_);refine AJ (by (simp only [Act.put,List.setIfInBounds_toArray,List.set_cons_zero,List.set_cons_succ]);exact rfl) ?_)|(refine BF AA (Aj hS 3 _ rfl _ rfl (AK rfl) _ (by with_reducible assumption) ?_);refine AJ (by (simp only [Act.put,List.setIfInBounds_toArray,List.set_cons_zero,List.set_cons_succ]);exact rfl) ?_))|refine bQ ?_;clear hS;intro w hS|((with_reducible refine Ak _ (.load 35 _) ?_);first|(refine BF AA (AZ hS 35 _ rfl _ _ rfl (AK rfl) _ AM _ (by rfl) ?_);refine AJ (by (simp only [Act.put,List.setIfInBounds_toArray,List.set_cons_zero,List.set_cons_succ]);exact rfl) ?_)|(refine BF AA (Al hS 35 _ rfl _ _ rfl (AK rfl) _ _ _ _ _ AM _ (by with_reducible assumption) ?_);refine AJ (by (simp only [Act.put,List.setIfInBounds_toArray,List.set_cons_zero,List.set_cons_succ]);exact rfl) ?_)|(refine BF AA (Aj hS 35 _ rfl _ rfl (AK rfl) _ (by with_reducible assumption) ?_);refine AJ (by (simp only [Act.put,List.setIfInBounds_toArray,List.set_cons_zero,List.set_cons_succ]);exact rfl) ?_))|((refine AQ 54 ?_);first|(refine BF AA (AU (o:=⟨some 54,_,_,_,_,_⟩) hS 35 1 _ rfl 5 1 1 Ic _ _ (by (repeat (first|exact AX.nil|(apply AX.agg;(rfl);(rfl))|(apply AX.one;exact CK;(rfl);(rfl))))) (by rfl) (by decide) (by decide) ?_);clear hS;intro g54 w hS;refine AJ (by (simp only [Act.put,List.setIfInBounds_toArray,List.set_cons_zero,List.set_cons_succ]);exact rfl) ?_))|refine b7 ?_;clear hS;intro w hS|(first|refine B9 ?_|refine Bg ?_|refine Bf ?_|refine Cc ?_))
 rw [HOR.out] at hS
 have HN:=AD (show Fr (bs.drop (8*(bs.length/8))++Ax width value)=A*2^width+value by rw [EK,Av,EV _ _ hv,hA])
 have HT:=AD (show (bs.drop (8*(bs.length/8))++Ax width value).length=M+width by rw [List.length_append,Av,hrl])
 generalize hT:M+width=T at*
 generalize hN:A*2^width+value=N at*
 generalize hq:bs.length/8=q at*
 have hBl:bs.length=8*q+M:=by omega
 have hX:Ch (q+0) (bs++Ax width value)=Ch q bs:=PX q bs _ (by omega)
 rw [←hX] at hS
 rw [show ((M:Int)+(width:Int))=((T:Nat):Int) by omega] at hS
 clear hX
 go_loopg [] 4 (fun gk wr=>∃(j:Nat) (ad':Option Addr) (c':Nat),gk+j=4∧8*j≤T∧St W wr (blk g [.slice ad' (q+j) c', .int .u64 (N:Nat), .int .i64 (T-8*j:Nat)]::own 5 1 ad' (q+j) c' (bv (Ch (q+j) (bs++Ax width value)))::rs'))
 case atStart=>exact ⟨0,ad,c,rfl,by omega,hS⟩
 case round=>
  clear hS
  obtain ⟨j,ad',c',hj,hjT,hS⟩:=hrel
  generalize hR:T-8*j=R at*
  by_cases h8:8≤R
  ·obtain ⟨r,hr⟩:∃r,R=r+8:=⟨R-8,by omega⟩
   have hb1:IntKind.i64.wrap ((R:Int)-8)=(r:Int):=by simp [IntKind.wrap,IntKind.signed,IntKind.bits];omega
   have hb2:(0:Int)≤(r:Int):=by omega
   have hb3:(r:Int)<64:=by omega
   have HR:=AD hr
   have HP:=AD (show q+j+1≤maxLen∧(q+j+1)*1≤140737488355328 by unfold maxLen;omega)
   clear hr
   have HBy:Hid ((N:Int)/2^r%256=((Fr (((bs++Ax width value).drop (8*(q+j))).take 8):Nat):Int)):=by
    have h1:=Mj (bs.drop (8*q)++Ax width value) (8*j) 8 (by rw [HT.out];omega)
    rw [HT.out,HN.out,show T-8*j-8=r by have:=HR.out;omega] at h1
    have h2:(bs++Ax width value).drop (8*(q+j))=(bs.drop (8*q)++Ax width value).drop (8*j):=by
     rw [Nat.mul_add,←List.drop_drop,List.drop_append_of_le_length (by omega)]
    unfold Hid
    rw [h2,h1]
    have h3:((N:Int)/2^r)=((N/2^r:Nat):Int):=by push_cast;rfl
    rw [h3]
    generalize N/2^r=y
    simp
   go_wp2_with (first
    | ((with_reducible refine Ak _ (.load 169 _) ?_);first|(refine BF AA (AZ hS 169 _ rfl _ _ rfl (AK rfl) _ AM _ (by rfl) ?_);refine AJ (by (simp only [Act.put,List.setIfInBounds_toArray,List.set_cons_zero,List.set_cons_succ]);exact rfl) ?_)|(refine BF AA (Al hS 169 _ rfl _ _ rfl (AK rfl) _ _ _ _ _ AM _ (by with_reducible assumption) ?_);refine AJ (by (simp only [Act.put,List.setIfInBounds_toArray,List.set_cons_zero,List.set_cons_succ]);exact rfl) ?_)|(refine BF AA (Aj hS 169 _ rfl _ rfl (AK rfl) _ (by with_reducible assumption) ?_);refine AJ (by (simp only [Act.put,List.setIfInBounds_toArray,List.set_cons_zero,List.set_cons_succ]);exact rfl) ?_))|refine b6 ?_;clear hS;intro w hS|((with_reducible refine Ak _ (.load 3 _) ?_);first|(refine BF AA (Bh hS 3 _ rfl _ _ rfl (AK rfl) _ _ AM (by omega) ?_);refine AJ (by (simp only [Act.put,List.setIfInBounds_toArray,List.set_cons_zero,List.set_cons_succ]);exact rfl) ?_)|(refine BF AA (AZ hS 3 _ rfl _ _ rfl (AK rfl) _ AM _ (by rfl) ?_);refine AJ (by (simp only [Act.put,List.setIfInBounds_toArray,List.set_cons_zero,List.set_cons_succ]);exact rfl) ?_)|(refine BF AA (Al hS 3 _ rfl _ _ rfl (AK rfl) _ _ _ _ _ AM _ (by with_reducible assumption) ?_);refine AJ (by (simp only [Act.put,List.setIfInBounds_toArray,List.set_cons_zero,List.set_cons_succ]);exact rfl) ?_)|(refine BF AA (Aj hS 3 _ rfl _ rfl (AK rfl) _ (by with_reducible assumption) ?_);refine AJ (by (simp only [Act.put,List.setIfInBounds_toArray,List.set_cons_zero,List.set_cons_succ]);exact rfl) ?_))|refine bQ ?_;clear hS;intro w hS|((with_reducible refine Ak _ (.load 35 _) ?_);first|(refine BF AA (AZ hS 35 _ rfl _ _ rfl (AK rfl) _ AM _ (by rfl) ?_);refine AJ (by (simp only [Act.put,List.setIfInBounds_toArray,List.set_cons_zero,List.set_cons_succ]);exact rfl) ?_)|(refine BF AA (Al hS 35 _ rfl _ _ rfl (AK rfl) _ _ _ _ _ AM _ (by with_reducible assumption) ?_);refine AJ (by (simp only [Act.put,List.setIfInBounds_toArray,List.set_cons_zero,List.set_cons_succ]);exact rfl) ?_)|(refine BF AA (Aj hS 35 _ rfl _ rfl (AK rfl) _ (by with_reducible assumption) ?_);refine AJ (by (simp only [Act.put,List.setIfInBounds_toArray,List.set_cons_zero,List.set_cons_succ]);exact rfl) ?_))|((refine AQ 54 ?_);first|(refine BF AA (AU (o:=⟨some 54,_,_,_,_,_⟩) hS 35 1 _ rfl 5 1 1 Ic _ _ (by (repeat (first|exact AX.nil|(apply AX.agg;(rfl);(rfl))|(apply AX.one;exact CK;(rfl);(rfl))))) (by rfl) (by decide) (by decide) ?_);clear hS;intro g54 w hS;refine AJ (by (simp only [Act.put,List.setIfInBounds_toArray,List.set_cons_zero,List.set_cons_succ]);exact rfl) ?_))|refine b7 ?_;clear hS;intro w hS|(first|refine B9 ?_|refine Bg ?_|refine Bf ?_|refine Cc ?_))
   refine AP [17,20] (fun w=>St W w [blk g [.slice ad' (q+j) c', .int .u64 (N:Nat), .int .i64 (R:Nat)]]) AA ?_
   replace hS:=hS.drew
   apply BP 0 Ai AA AA AA (fun _ _ _ _ h=>h)
   case hfr=>intro w;go_wp2_with fail;exact ⟨rfl,rfl⟩
   case hd=>rfl
   apply BP 1 Ai AA AA AA (fun _ _ _ _ h=>h)
   case hfr=>intro w;go_wp2_with fail;exact ⟨rfl,rfl⟩
   case hd=>rfl
   apply BP 2 Ai AA AA AA (fun _ _ _ _ h=>h)
   case hfr=>intro w;go_wp2_with fail;exact ⟨rfl,rfl⟩
   case hd=>rfl
   apply BP 3 Ai AA AA AA (fun _ _ _ _ h=>h)
   case hfr=>intro w;go_wp2_with fail;exact ⟨rfl,rfl⟩
   case hd=>rfl
   apply DG 4 Ai AA AA AA (fun _ _ _ _ h=>h) [17,18,19,20] AA (hS.sub AV)
   case hfr=>intro w hS;go_wp2_with (first|(refine BF AA (AZ hS 35 _ rfl _ _ rfl (AK rfl) _ AM _ (by rfl) ?_);refine AJ (by (simp only [Act.put,List.setIfInBounds_toArray,List.set_cons_zero,List.set_cons_succ]);exact rfl) ?_)|(refine BF AA (Al hS 35 _ rfl _ _ rfl (AK rfl) _ _ _ _ _ AM _ (by with_reducible assumption) ?_);refine AJ (by (simp only [Act.put,List.setIfInBounds_toArray,List.set_cons_zero,List.set_cons_succ]);exact rfl) ?_)|(refine BF AA (Aj hS 35 _ rfl _ rfl (AK rfl) _ (by with_reducible assumption) ?_);refine AJ (by (simp only [Act.put,List.setIfInBounds_toArray,List.set_cons_zero,List.set_cons_succ]);exact rfl) ?_));exact ⟨rfl,rfl⟩
   case hd=>rfl
   apply BP 5 Ai AA AA AA (fun _ _ _ _ h=>h)
   case hfr=>intro w;go_wp2_with fail;exact ⟨rfl,rfl⟩
   case hd=>rfl
   apply BP 6 Ai AA AA AA (fun _ _ _ _ h=>h)
   case hfr=>intro w;go_wp2_with fail;exact ⟨rfl,rfl⟩
   case hd=>rfl
   apply BP 7 Ai AA AA AA (fun _ _ _ _ h=>h)
   case hfr=>intro w;go_wp2_with fail;exact ⟨rfl,rfl⟩
   case hd=>rfl
   apply DG 8 Ai AA AA AA (fun _ _ _ _ h=>h) [14,15,16,17,18,19,20] AA (hS.sub AV)
   case hfr=>intro w hS;go_wp2_with (first|(refine BF AA (AZ hS 169 _ rfl _ _ rfl (AK rfl) _ AM _ (by rfl) ?_);refine AJ (by (simp only [Act.put,List.setIfInBounds_toArray,List.set_cons_zero,List.set_cons_succ]);exact rfl) ?_)|(refine BF AA (Al hS 169 _ rfl _ _ rfl (AK rfl) _ _ _ _ _ AM _ (by with_reducible assumption) ?_);refine AJ (by (simp only [Act.put,List.setIfInBounds_toArray,List.set_cons_zero,List.set_cons_succ]);exact rfl) ?_)|(refine BF AA (Aj hS 169 _ rfl _ rfl (AK rfl) _ (by with_reducible assumption) ?_);refine AJ (by (simp only [Act.put,List.setIfInBounds_toArray,List.set_cons_zero,List.set_cons_succ]);exact rfl) ?_));exact ⟨rfl,rfl⟩
   case hd=>rfl
   apply BP 9 Ai AA AA AA (fun _ _ _ _ h=>h)
   case hfr=>intro w;go_wp2_with fail;exact ⟨rfl,rfl⟩
   case hd=>rfl
   apply BP 10 Ai AA AA AA (fun _ _ _ _ h=>h)
   case hfr=>intro w;go_wp2_with fail;exact ⟨rfl,rfl⟩
   case hd=>rfl
   apply BP 11 Ai AA AA AA (fun _ _ _ _ h=>h)
   case hfr=>intro w;go_wp2_with fail;exact ⟨rfl,rfl⟩
   case hd=>rfl
   apply DG 12 Ai AA AA AA (fun _ _ _ _ h=>h) [13,14,15,16,17,18,19,20] AA (hS.sub AV)
   case hfr=>intro w hS;go_wp2_with (first|(refine BF AA (Bh hS 3 _ rfl _ _ rfl (AK rfl) _ _ AM (by omega) ?_);refine AJ (by (simp only [Act.put,List.setIfInBounds_toArray,List.set_cons_zero,List.set_cons_succ]);exact rfl) ?_)|(refine BF AA (AZ hS 3 _ rfl _ _ rfl (AK rfl) _ AM _ (by rfl) ?_);refine AJ (by (simp only [Act.put,List.setIfInBounds_toArray,List.set_cons_zero,List.set_cons_succ]);exact rfl) ?_)|(refine BF AA (Al hS 3 _ rfl _ _ rfl (AK rfl) _ _ _ _ _ AM _ (by with_reducible assumption) ?_);refine AJ (by (simp only [Act.put,List.setIfInBounds_toArray,List.set_cons_zero,List.set_cons_succ]);exact rfl) ?_)|(refine BF AA (Aj hS 3 _ rfl _ rfl (AK rfl) _ (by with_reducible assumption) ?_);refine AJ (by (simp only [Act.put,List.setIfInBounds_toArray,List.set_cons_zero,List.set_cons_succ]);exact rfl) ?_));exact ⟨rfl,rfl⟩
   case hd=>rfl
   apply BP 13 Ai AA AA AA (fun _ _ _ _ h=>h)
   case hfr=>intro w;go_wp2_with fail;exact ⟨rfl,rfl⟩
   case hd=>rfl
   apply BP 14 Ai AA AA AA (fun _ _ _ _ h=>h)
   case hfr=>intro w;go_wp2_with fail;exact ⟨rfl,rfl⟩
   case hd=>rfl
   apply BP 15 Ai AA AA AA (fun _ _ _ _ h=>h)
   case hfr=>intro w;go_wp2_with fail;exact ⟨rfl,rfl⟩
   case hd=>rfl
   refine Ao 16 ?_
   (refine AU (o:=⟨some 54,_,_,_,_,_⟩) hS 35 1 _ rfl 5 1 1 Ic _ _ (by (repeat (first|exact AX.nil|(apply AX.agg;(rfl);(rfl))|(apply AX.one;exact CK;(rfl);(rfl))))) (by rfl) (by decide) (by decide) ?_;clear hS;intro g54 w hS)
   refine ⟨fun _ _=>hS.sub AV,?_⟩
   refine KH (by (simp only [Act.put,List.setIfInBounds_toArray,List.set_cons_zero,List.set_cons_succ]);exact rfl) ?_
   refine Ao 17 ?_
   refine A7 hS _ _ 35 rfl _ 1 1 Ic _ _ _ _ rfl AM _ rfl 1 _ (hS.slBlk (n:=1) AM (by rfl) (by decide)) (by intro u hu;rw [List.mem_singleton] at hu;rw [hu];rfl) HP.out.1 HP.out.2 ?_;clear hS;intro ad2 c2 w hS
   refine ⟨fun h=>absurd (by decide) h,?_⟩
   refine KH (by (simp only [Act.put,List.setIfInBounds_toArray,List.set_cons_zero,List.set_cons_succ]);exact rfl) ?_
   apply BP 18 Ai AA AA AA (fun _ _ _ _ h=>h)
   case hfr=>intro w;go_wp2_with fail;exact ⟨rfl,rfl⟩
   case hd=>rfl
   apply BP 19 Ai AA AA AA (fun _ _ _ _ h=>h)
   case hfr=>intro w;go_wp2_with fail;exact ⟨rfl,rfl⟩
   case hd=>rfl
   refine Ao 20 ?_
   (refine Bt hS 35 _ _ rfl _ _ rfl (AK rfl) _ _ AM _ CK (by rfl) Xc rfl ?_;clear hS;intro w hS)
   refine ⟨fun h=>absurd (by decide) h,?_⟩
   refine AE AA ?_ _
   go_wp2_with (first
    | ((with_reducible refine Ak _ (.load 169 _) ?_);first|(refine BF AA (AZ hS 169 _ rfl _ _ rfl (AK rfl) _ AM _ (by rfl) ?_);refine AJ (by (simp only [Act.put,List.setIfInBounds_toArray,List.set_cons_zero,List.set_cons_succ]);exact rfl) ?_)|(refine BF AA (Al hS 169 _ rfl _ _ rfl (AK rfl) _ _ _ _ _ AM _ (by with_reducible assumption) ?_);refine AJ (by (simp only [Act.put,List.setIfInBounds_toArray,List.set_cons_zero,List.set_cons_succ]);exact rfl) ?_)|(refine BF AA (Aj hS 169 _ rfl _ rfl (AK rfl) _ (by with_reducible assumption) ?_);refine AJ (by (simp only [Act.put,List.setIfInBounds_toArray,List.set_cons_zero,List.set_cons_succ]);exact rfl) ?_))|refine b6 ?_;clear hS;intro w hS|((with_reducible refine Ak _ (.load 3 _) ?_);first|(refine BF AA (Bh hS 3 _ rfl _ _ rfl (AK rfl) _ _ AM (by omega) ?_);refine AJ (by (simp only [Act.put,List.setIfInBounds_toArray,List.set_cons_zero,List.set_cons_succ]);exact rfl) ?_)|(refine BF AA (AZ hS 3 _ rfl _ _ rfl (AK rfl) _ AM _ (by rfl) ?_);refine AJ (by (simp only [Act.put,List.setIfInBounds_toArray,List.set_cons_zero,List.set_cons_succ]);exact rfl) ?_)|(refine BF AA (Al hS 3 _ rfl _ _ rfl (AK rfl) _ _ _ _ _ AM _ (by with_reducible assumption) ?_);refine AJ (by (simp only [Act.put,List.setIfInBounds_toArray,List.set_cons_zero,List.set_cons_succ]);exact rfl) ?_)|(refine BF AA (Aj hS 3 _ rfl _ rfl (AK rfl) _ (by with_reducible assumption) ?_);refine AJ (by (simp only [Act.put,List.setIfInBounds_toArray,List.set_cons_zero,List.set_cons_succ]);exact rfl) ?_))|refine bQ ?_;clear hS;intro w hS|((with_reducible refine Ak _ (.load 35 _) ?_);first|(refine BF AA (AZ hS 35 _ rfl _ _ rfl (AK rfl) _ AM _ (by rfl) ?_);refine AJ (by (simp only [Act.put,List.setIfInBounds_toArray,List.set_cons_zero,List.set_cons_succ]);exact rfl) ?_)|(refine BF AA (Al hS 35 _ rfl _ _ rfl (AK rfl) _ _ _ _ _ AM _ (by with_reducible assumption) ?_);refine AJ (by (simp only [Act.put,List.setIfInBounds_toArray,List.set_cons_zero,List.set_cons_succ]);exact rfl) ?_)|(refine BF AA (Aj hS 35 _ rfl _ rfl (AK rfl) _ (by with_reducible assumption) ?_);refine AJ (by (simp only [Act.put,List.setIfInBounds_toArray,List.set_cons_zero,List.set_cons_succ]);exact rfl) ?_))|((refine AQ 54 ?_);first|(refine BF AA (AU (o:=⟨some 54,_,_,_,_,_⟩) hS 35 1 _ rfl 5 1 1 Ic _ _ (by (repeat (first|exact AX.nil|(apply AX.agg;(rfl);(rfl))|(apply AX.one;exact CK;(rfl);(rfl))))) (by rfl) (by decide) (by decide) ?_);clear hS;intro g54 w hS;refine AJ (by (simp only [Act.put,List.setIfInBounds_toArray,List.set_cons_zero,List.set_cons_succ]);exact rfl) ?_))|refine b7 ?_;clear hS;intro w hS|(first|refine B9 ?_|refine Bg ?_|refine Bf ?_|refine Cc ?_))
   go_roundg (gk-1)
   case measure=>have:=HR.out;omega
   case rel=>
    refine ⟨j+1,ad2,c2,by omega,by have:=HR.out;omega,?_⟩
    rw [show T-8*(j+1)=r by have:=HR.out;omega,←Nat.add_assoc q j 1,TK,V6,show (bv [Fr (((bs++Ax width value).drop (8*(q+j))).take 8)]=[Value.int .u8 ((N:Int)/2^r%256)]) by rw [HBy.out];rfl]
    exact hS.sub AV
  have hlen:(bs++Ax width value).length=8*(q+j)+R:=by rw [List.length_append,Av];omega
  have hd1:=AD (show (bs++Ax width value).length/8=q+j by omega)
  have hd2:=AD (show (bs++Ax width value).length%8=R by omega)
  have hval:Hid (Fr ((bs++Ax width value).drop (8*(q+j)))=N%2^R):=by
   have h1:=Mj (bs.drop (8*q)++Ax width value) (8*j) R (by rw [HT.out];omega)
   rw [HT.out,HN.out,show T-8*j-R=0 by omega,Nat.pow_zero,Nat.div_one,List.take_of_length_le (by rw [List.length_drop,HT.out];omega)] at h1
   unfold Hid
   rw [Nat.mul_add,←List.drop_drop,List.drop_append_of_le_length (by omega)]
   exact h1
  have hNl:N<18446744073709551616:=by
   have h1:=Il (bs.drop (8*q)++Ax width value)
   rw [HN.out,HT.out] at h1
   exact Nat.lt_of_lt_of_le h1 (Pd T 64 (by omega))
  have HAND:=AD (cg N R hNl (by omega))
  clear hlen
  go_wp2_with (first
   | ((with_reducible refine Ak _ (.load 169 _) ?_);first|(refine BF AA (AZ hS 169 _ rfl _ _ rfl (AK rfl) _ AM _ (by rfl) ?_);refine AJ (by (simp only [Act.put,List.setIfInBounds_toArray,List.set_cons_zero,List.set_cons_succ]);exact rfl) ?_)|(refine BF AA (Al hS 169 _ rfl _ _ rfl (AK rfl) _ _ _ _ _ AM _ (by with_reducible assumption) ?_);refine AJ (by (simp only [Act.put,List.setIfInBounds_toArray,List.set_cons_zero,List.set_cons_succ]);exact rfl) ?_)|(refine BF AA (Aj hS 169 _ rfl _ rfl (AK rfl) _ (by with_reducible assumption) ?_);refine AJ (by (simp only [Act.put,List.setIfInBounds_toArray,List.set_cons_zero,List.set_cons_succ]);exact rfl) ?_))|refine b6 ?_;clear hS;intro w hS|((with_reducible refine Ak _ (.load 3 _) ?_);first|(refine BF AA (Bh hS 3 _ rfl _ _ rfl (AK rfl) _ _ AM (by omega) ?_);refine AJ (by (simp only [Act.put,List.setIfInBounds_toArray,List.set_cons_zero,List.set_cons_succ]);exact rfl) ?_)|(refine BF AA (AZ hS 3 _ rfl _ _ rfl (AK rfl) _ AM _ (by rfl) ?_);refine AJ (by (simp only [Act.put,List.setIfInBounds_toArray,List.set_cons_zero,List.set_cons_succ]);exact rfl) ?_)|(refine BF AA (Al hS 3 _ rfl _ _ rfl (AK rfl) _ _ _ _ _ AM _ (by with_reducible assumption) ?_);refine AJ (by (simp only [Act.put,List.setIfInBounds_toArray,List.set_cons_zero,List.set_cons_succ]);exact rfl) ?_)|(refine BF AA (Aj hS 3 _ rfl _ rfl (AK rfl) _ (by with_reducible assumption) ?_);refine AJ (by (simp only [Act.put,List.setIfInBounds_toArray,List.set_cons_zero,List.set_cons_succ]);exact rfl) ?_))|refine bQ ?_;clear hS;intro w hS|((with_reducible refine Ak _ (.load 35 _) ?_);first|(refine BF AA (AZ hS 35 _ rfl _ _ rfl (AK rfl) _ AM _ (by rfl) ?_);refine AJ (by (simp only [Act.put,List.setIfInBounds_toArray,List.set_cons_zero,List.set_cons_succ]);exact rfl) ?_)|(refine BF AA (Al hS 35 _ rfl _ _ rfl (AK rfl) _ _ _ _ _ AM _ (by with_reducible assumption) ?_);refine AJ (by (simp only [Act.put,List.setIfInBounds_toArray,List.set_cons_zero,List.set_cons_succ]);exact rfl) ?_)|(refine BF AA (Aj hS 35 _ rfl _ rfl (AK rfl) _ (by with_reducible assumption) ?_);refine AJ (by (simp only [Act.put,List.setIfInBounds_toArray,List.set_cons_zero,List.set_cons_succ]);exact rfl) ?_))|((refine AQ 54 ?_);first|(refine BF AA (AU (o:=⟨some 54,_,_,_,_,_⟩) hS 35 1 _ rfl 5 1 1 Ic _ _ (by (repeat (first|exact AX.nil|(apply AX.agg;(rfl);(rfl))|(apply AX.one;exact CK;(rfl);(rfl))))) (by rfl) (by decide) (by decide) ?_);clear hS;intro g54 w hS;refine AJ (by (simp only [Act.put,List.setIfInBounds_toArray,List.set_cons_zero,List.set_cons_succ]);exact rfl) ?_))|refine b7 ?_;clear hS;intro w hS|(first|refine B9 ?_|refine Bg ?_|refine Bf ?_|refine Cc ?_))
  refine AP [13] (fun w=>St W w [blk g [.slice ad' (q+j) c', .int .u64 (N:Nat), .int .i64 (R:Nat)]]) AA ?_
  replace hS:=hS.drew
  apply BP 0 Ai AA AA AA (fun _ _ _ _ h=>h)
  case hfr=>intro w;go_wp2_with fail;exact ⟨rfl,rfl⟩
  case hd=>rfl
  apply BP 1 Ai AA AA AA (fun _ _ _ _ h=>h)
  case hfr=>intro w;go_wp2_with fail;exact ⟨rfl,rfl⟩
  case hd=>rfl
  apply BP 2 Ai AA AA AA (fun _ _ _ _ h=>h)
  case hfr=>intro w;go_wp2_with fail;exact ⟨rfl,rfl⟩
  case hd=>rfl
  apply DG 3 Ai AA AA AA (fun _ _ _ _ h=>h) [10,11,12,13] AA (hS.sub AV)
  case hfr=>intro w hS;go_wp2_with (first|(refine BF AA (AZ hS 169 _ rfl _ _ rfl (AK rfl) _ AM _ (by rfl) ?_);refine AJ (by (simp only [Act.put,List.setIfInBounds_toArray,List.set_cons_zero,List.set_cons_succ]);exact rfl) ?_)|(refine BF AA (Al hS 169 _ rfl _ _ rfl (AK rfl) _ _ _ _ _ AM _ (by with_reducible assumption) ?_);refine AJ (by (simp only [Act.put,List.setIfInBounds_toArray,List.set_cons_zero,List.set_cons_succ]);exact rfl) ?_)|(refine BF AA (Aj hS 169 _ rfl _ rfl (AK rfl) _ (by with_reducible assumption) ?_);refine AJ (by (simp only [Act.put,List.setIfInBounds_toArray,List.set_cons_zero,List.set_cons_succ]);exact rfl) ?_));exact ⟨rfl,rfl⟩
  case hd=>rfl
  apply BP 4 Ai AA AA AA (fun _ _ _ _ h=>h)
  case hfr=>intro w;go_wp2_with fail;exact ⟨rfl,rfl⟩
  case hd=>rfl
  apply BP 5 Ai AA AA AA (fun _ _ _ _ h=>h)
  case hfr=>intro w;go_wp2_with fail;exact ⟨rfl,rfl⟩
  case hd=>rfl
  apply BP 6 Ai AA AA AA (fun _ _ _ _ h=>h)
  case hfr=>intro w;go_wp2_with fail;exact ⟨rfl,rfl⟩
  case hd=>rfl
  apply DG 7 Ai AA AA AA (fun _ _ _ _ h=>h) [8,9,10,11,12,13] AA (hS.sub AV)
  case hfr=>intro w hS;go_wp2_with (first|(refine BF AA (Bh hS 3 _ rfl _ _ rfl (AK rfl) _ _ AM (by omega) ?_);refine AJ (by (simp only [Act.put,List.setIfInBounds_toArray,List.set_cons_zero,List.set_cons_succ]);exact rfl) ?_)|(refine BF AA (AZ hS 3 _ rfl _ _ rfl (AK rfl) _ AM _ (by rfl) ?_);refine AJ (by (simp only [Act.put,List.setIfInBounds_toArray,List.set_cons_zero,List.set_cons_succ]);exact rfl) ?_)|(refine BF AA (Al hS 3 _ rfl _ _ rfl (AK rfl) _ _ _ _ _ AM _ (by with_reducible assumption) ?_);refine AJ (by (simp only [Act.put,List.setIfInBounds_toArray,List.set_cons_zero,List.set_cons_succ]);exact rfl) ?_)|(refine BF AA (Aj hS 3 _ rfl _ rfl (AK rfl) _ (by with_reducible assumption) ?_);refine AJ (by (simp only [Act.put,List.setIfInBounds_toArray,List.set_cons_zero,List.set_cons_succ]);exact rfl) ?_));exact ⟨rfl,rfl⟩
  case hd=>rfl
  apply BP 8 Ai AA AA AA (fun _ _ _ _ h=>h)
  case hfr=>intro w;go_wp2_with fail;exact ⟨rfl,rfl⟩
  case hd=>rfl
  apply BP 9 Ai AA AA AA (fun _ _ _ _ h=>h)
  case hfr=>intro w;go_wp2_with fail;exact ⟨rfl,rfl⟩
  case hd=>rfl
  apply BP 10 Ai AA AA AA (fun _ _ _ _ h=>h)
  case hfr=>intro w;go_wp2_with fail;exact ⟨rfl,rfl⟩
  case hd=>rfl
  apply BP 11 Ai AA AA AA (fun _ _ _ _ h=>h)
  case hfr=>intro w;go_wp2_with fail;exact ⟨rfl,rfl⟩
  case hd=>rfl
  apply BP 12 Ai AA AA AA (fun _ _ _ _ h=>h)
  case hfr=>intro w;go_wp2_with fail;exact ⟨rfl,rfl⟩
  case hd=>rfl
  refine Ao 13 ?_
  (refine Bt hS 169 _ _ rfl _ _ rfl (AK rfl) _ _ AM _ CK (by rfl) Xc rfl ?_;clear hS;intro w hS)
  refine ⟨fun h=>absurd (by decide) h,?_⟩
  refine AE AA ?_ _
  go_end0
  refine ⟨rfl,St.close (ad',c') ?_⟩
  simp only [List.cons_append,List.nil_append]
  rw [HAND.out] at hS
  rw [hd1.out,hd2.out,hval.out]
  exact hS.sub AV
end Go.Proofs.YtohacgmhmbijmaaGreatDoor
/- And, or, exclusive or of ints that are not negative. -/
namespace Go
open Go.RowKit
theorem toNat_i64(a:Nat)(ha:a<9223372036854775808):(BitVec.ofInt 64 (a:Int)).toNat=a:=by
  rw [BitVec.ofInt_natCast,BitVec.toNat_ofNat];exact Nat.mod_eq_of_lt (by omega)
theorem wrap_i64_nat(x:Nat)(h:x<9223372036854775808):IntKind.i64.wrap (x:Int)=(x:Int):=by
  simp [IntKind.wrap,IntKind.signed,IntKind.bits];omega
theorem bits_and_i64_nat(a b:Nat)(ha:a<9223372036854775808)(hb:b<9223372036854775808):bits .and .i64 (a:Int) (b:Int)=((a&&&b:Nat):Int):=by
  show IntKind.i64.wrap ((BitVec.ofInt 64 (a:Int)&&&BitVec.ofInt 64 (b:Int)).toNat:Int)=_
  rw [BitVec.toNat_and,toNat_i64 a ha,toNat_i64 b hb]
  exact wrap_i64_nat _ (Nat.lt_of_lt_of_le (Nat.and_lt_two_pow (n:=63) _ (by omega)) (by decide))
theorem bits_or_i64_nat(a b:Nat)(ha:a<9223372036854775808)(hb:b<9223372036854775808):bits .or .i64 (a:Int) (b:Int)=((a|||b:Nat):Int):=by
  show IntKind.i64.wrap ((BitVec.ofInt 64 (a:Int)|||BitVec.ofInt 64 (b:Int)).toNat:Int)=_
  rw [BitVec.toNat_or,toNat_i64 a ha,toNat_i64 b hb]
  exact wrap_i64_nat _ (Nat.lt_of_lt_of_le (Nat.or_lt_two_pow (n:=63) (by omega) (by omega)) (by decide))
/-- Two to a small power, reckoned as ints are. -/
theorem pow_i64(k:Nat)(h:k<63):wrap64 ((2:Int)^k)=((2^k:Nat):Int):=by
  have h1:2^k≤2^62:=Nat.pow_le_pow_right (by omega) (by omega)
  rw [show (2:Int)^k=((2^k:Nat):Int) by push_cast;rfl]
  generalize 2^k=x at h1
  unfold wrap64
  omega
theorem mask_i64(k:Nat)(h:k<63):wrap64 (wrap64 ((2:Int)^k)-1)=((2^k-1:Nat):Int):=by
  have h1:2^k≤2^62:=Nat.pow_le_pow_right (by omega) (by omega)
  have h0:=Nat.two_pow_pos k
  rw [pow_i64 k h]
  generalize 2^k=x at h1 h0
  unfold wrap64
  omega
end Go
namespace Go.Proofs.YtohacgmhmbijmaaGreatDoor
attribute [local irreducible] Region.wanted
open Go.RowKit
set_option linter.unusedVariables false
set_option maxRecDepth 100000
set_option maxHeartbeats 8000000
theorem cw(a0:Option Addr)(n0 c0:Nat)(w:World):(Instr.build 184 #[(0, .slice a0 n0 c0)]).run Tryz.prog w= .ok (.agg #[.slice a0 n0 c0, .int .i64 0]) w:=by kernel_rfl
def rd(g:Nat)(ad:Option Addr)(n c i:Nat):Au:=blk g [.slice ad n c, .int .i64 (i:Nat)]
theorem N7(w0:World)(ad:Option Addr)(n c:Nat):Calls Tryz.prog 87 #[.slice ad n c] w0 fun e w=>∃g,e= .returned (.pointer (some ⟨g,0,none⟩))∧St w0 w [rd g ad n c 0]:=by
 have hS:=St.start w0
 go_enter Tryz.func87,Tryz.ntmps87
 repeat' (first
  | refine X0 ?_|(refine AQ 4 ?_);(refine Aq AA (V.build (vs:=[(0,_)]) rfl (cw _ _ _)) ?_;go_step)|(refine AQ 5 ?_);(refine Ad ?_;apply CZ (o:=⟨some 5,_,_,_,_,_⟩) hS 184 _ rfl _ rfl;clear hS;intro g5 w hS;refine AB ?_;go_step)|refine AG ?_;go_step|fail)
 go_ret
 exact ⟨_,rfl,hS⟩
theorem Ma(w0:World)(g n c at_:Nat)(ad:Option Addr)(c0:w0.cell? ⟨g,0,none⟩=some (.slice ad n c))(c1:w0.cell? ⟨g,1,none⟩=some (.int .i64 (at_:Nat)))(hn:n≤1000000000000000000)(ha:at_≤8*n):
 Calls Tryz.prog 89 #[.pointer (some ⟨g,0,none⟩)] w0 fun e w=>e= .returned (.int .i64 ((8*n-at_:Nat):Int))∧Ah w0 w:=by
 have hS:=St.start w0
 go_enter Tryz.func89,Tryz.ntmps89
 repeat' (first
  | refine X8 ?_|refine AG ?_;go_step|fail)
 refine AP [] (fun w=>St w0 w []) AA ?_
 replace hS:=hS.drew
 focus
  refine AY 0 ?_
  refine CA 1 BZ (V.nilCheck rfl) ?_;go_step
  refine CA 2 BZ (V.fieldAddr UZ rfl BT) ?_;go_step
  apply DG 3 Ai AA AA AA B5 [4,5,10,11] AA (hS.sub AV)
  case hfr=>intro w hS;((refine Ad ?_;apply Aj hS 35 _ rfl _ rfl (AK rfl) _;(case hc=>with_reducible assumption);refine AB ?_;go_step));refine wpList_nil ?_;exact ⟨rfl,rfl⟩
  case hd=>rfl
  refine CA 4 BZ (V.len Tryz.underlying35 rfl) ?_;go_step
  refine fD 5 ?_
  refine AY 6 ?_
  refine CA 7 BZ (V.nilCheck rfl) ?_;go_step
  refine CA 8 BZ (V.fieldAddr La rfl BT) ?_;go_step
  refine fB 9 [10,11] ?_
  (refine BA 10 (.int _ (((8*n-at_:Nat):Int))) Ai AA AA AA B5 (V.as (V.subI rfl rfl (by omega)) (by omega)) AA ?_)
  go_step
  refine AY 11 ?_
  refine AE AA ?_ _
 repeat' (first
  | refine AG ?_;go_step|fail)
 go_ret
 exact ⟨rfl,hS.1⟩
def Gv(l:List Nat)(i:Nat):Nat:=l.getD (i/8) 0/2^(7-i%8)%2
theorem Th(l:List Nat)(i:Nat)(h:i<8*l.length):(BM l)[i]? =some (Gv l i==1):=Ti l i h
def BG(l:List Nat)(i m:Nat):Nat:=Fr (((BM l).drop i).take m)
theorem Ik(l:List Nat)(i m:Nat)(h:i+m<8*l.length):BG l i (m+1)=2*BG l i m+Gv l (i+m):=by
 unfold BG
 rw [List.take_add_one,List.getElem?_drop,Th _ _ h]
 simp only [Option.toList_some]
 rw [JS]
 have:Gv l (i+m)<2:=Nat.mod_lt _ (by omega)
 congr 1
 rcases (show Gv l (i+m)=0∨Gv l (i+m)=1 by omega) with h|h<;>rw [h]<;>rfl
theorem Mh(l:List Nat)(i m:Nat):BG l i m<2^m:=by
 unfold BG
 refine Nat.lt_of_lt_of_le (Il _) (Nat.pow_le_pow_right (by omega) ?_)
 simp;omega
theorem Zj(N b:Nat)(hN:N<4611686018427387904)(hb:b<2):bits .or .i64 (IntKind.i64.wrap ((N:Int)*2^1)) (b:Int)=((2*N+b:Nat):Int):=by
 have e1:IntKind.i64.wrap ((N:Int)*2^1)=((2*N:Nat):Int):=by rw [show ((N:Int)*2^1)=((2*N:Nat):Int) by push_cast;omega];exact wrap_i64_nat _ (by omega)
 rw [e1,bits_or_i64_nat _ _ (by omega) (by omega)]
 congr 1
 rw [show 2*N=2^1*N by omega]
 exact (Nat.two_pow_add_eq_or_of_lt (i:=1) (by omega) N).symm
theorem Ur(N b:Nat)(hN:N<4611686018427387904)(hb:b<2):bits .or .i64 ((N:Int)*2^1) (b:Int)=((2*N+b:Nat):Int):=by
 have:=Zj N b hN hb
 rwa [IntWalk.i64_in _ (by omega)] at this
theorem ch:∀b:Nat,b<256→bits .and .u8 (b:Int) 1=((b%2:Nat):Int):=by decide+kernel
theorem ct(l:List Nat)(i:Nat)(hl:∀x∈l,x<256):bits .and .u8 (((l.getD (i/8) 0:Nat):Int)/2^(7-i%8)) 1=((Gv l i:Nat):Int):=by
 have h1:l.getD (i/8) 0<256:=by
  by_cases h:i/8<l.length
  ·have:=hl _ (List.getElem_mem h);simpa [List.getD,h] using this
  simp [List.getD,List.getElem?_eq_none (show l.length≤i/8 by omega)]
 have h2:l.getD (i/8) 0/2^(7-i%8)<256:=Nat.lt_of_le_of_lt (Nat.div_le_self _ _) h1
 have e:((l.getD (i/8) 0:Nat):Int)/2^(7-i%8)=((l.getD (i/8) 0/2^(7-i%8):Nat):Int):=by push_cast;rfl
 rw [e,ch _ h2]
 rfl
theorem V5(a0:Option Nat)(a1:Option Nat)(w:World):(Instr.build 202 #[(0, .map a0),(1, .map a1)]).run Tryz.prog w= .ok (.agg #[.map a0, .map a1]) w:=by kernel_rfl
theorem KC(m0:Int)(m1:Int)(w:World):(Instr.build 206 #[(0, .int .i64 m0),(1, .int .i64 m1)]).run Tryz.prog w= .ok (.agg #[.int .i64 m0, .int .i64 m1]) w:=by kernel_rfl
def wv(s:Int)(y:Nat×Nat):Value:= .agg #[.int .i64 s, .int .i64 (y.1:Int), .int .i64 (y.2:Int)]
def Io(L:List (Int×Nat×Nat))(s:Int):Option Value:=(symW L s).map (wv s)
def Ia(L:List (Int×Nat×Nat))(p:Int×Int):Option Value:=(codW L p).map (Value.int .i64)
theorem XE(L:List (Int×Nat×Nat))(s:Int)(l c:Nat):(fun j=>if j=s then some (Value.agg ([s,(l:Int),(c:Int)].map (Value.int .i64)).toArray) else Io L j)=Io (L++[(s,l,c)]):=by
 funext j
 unfold Io
 rw [XG]
 by_cases h:j=s
 ·rw [if_pos h,if_pos h,h];rfl
 rw [if_neg h,if_neg h]
theorem WG(L:List (Int×Nat×Nat))(s:Int)(l c:Nat):(fun j=>if j=((l:Int),(c:Int)) then some (Value.int .i64 s) else Ia L j)=Ia (L++[(s,l,c)]):=by
 funext j
 unfold Ia
 rw [WI]
 by_cases h:j=((l:Int),(c:Int))
 ·rw [if_pos h,if_pos h];rfl
 rw [if_neg h,if_neg h]
def ML(g:Nat)(L:List (Int×Nat×Nat)):Au:=gv fun x:Nat×Nat=>[blk g [.map (some x.1), .map (some x.2)],mp ik x.1 (Io L),mp pk x.2 (Ia L)]
theorem JN(w0:World)(C S:List Int)(ad:Option Addr)(n c:Nat)(hC:Ae C 16)(hv:Sl w0 1 (.slice ad n c) n (S.map (Value.int .i64)))(hn:n≤9223372036854775807)(hok:A5 C S=0):
 Calls Tryz.prog 118 #[tv C (.slice ad n c)] w0 fun e w=>∃g,e= .returned (.pointer (some ⟨g,0,none⟩))∧St w0 w [ML g (CE C S)]:=by
 have hSl:S.length=n:=by have:=hv.1;simpa using this
 have hn256:n≤256:=by have:=(CM hok).2.2.1;omega
 obtain ⟨L,hL⟩:∃L,CE C S=L:=⟨_,rfl⟩
 have HL:=AD hL
 have HLl:Hid (L.length=n):=AD (by rw [←hL,QA _ _ (CM hok).2.1,hSl])
 have HOk:=AD hok
 clear hSl hL hok
 have hS:=St.start w0
 go_enter Tryz.func118,Tryz.ntmps118
 repeat' (first
  | (refine Am 134 ?_);refine An AA Tryz.call134 (Rz _ C S ad n c hC (hv.ext hS.1) hn HOk.out) ?_;rintro e w ⟨a2,c2,rfl,hS2⟩;rw [HL.out] at hS2;replace hS:=hS.call1 hS2;clear hS2;refine Ab ?_;go_step|refine X0 ?_|(refine AQ 8 ?_);(refine Aq AA (V.build (vs:=[(0,_),(1,_)]) rfl (V5 _ _)) ?_;go_step)|(with_reducible refine Ak _ (.call ⟨.builtin .len,_,_⟩) ?_);(refine Aq AA (V.len Tryz.underlying204 rfl) ?_;go_step)|refine gT 1 ?_;clear hS;intro g1 w hS|(refine AQ 6 ?_);(refine Ad ?_;apply Gd (o:=⟨some 6,_,_,_,_,_⟩) ik hS 199 rfl;clear hS;intro g6 w hS;refine AB ?_;go_step)|(refine AQ 7 ?_);(refine Ad ?_;apply Gd (o:=⟨some 7,_,_,_,_,_⟩) pk hS 200 rfl;clear hS;intro g7 w hS;refine AB ?_;go_step)|(refine AQ 9 ?_);(refine Ad ?_;apply CZ (o:=⟨some 9,_,_,_,_,_⟩) hS 202 _ rfl _ rfl;clear hS;intro g9 w hS;refine AB ?_;go_step)|refine L8 ?_|refine AG ?_;go_step|fail)
 go_loopg [13] n (fun gk kv w=>∃(i:Nat),gk+i=n∧kv= .int .i64 i∧St w0 w [own 197 3 a2 n c2 ((VV L).map (Value.int .i64)),blk g9 [.map (some g6), .map (some g7)],mp ik g6 (Io (L.take i)),mp pk g7 (Ia (L.take i))])
 case atStart=>exact ⟨0,rfl,rfl,(by rw [show Io (L.take 0)=fun _=>none from rfl,show Ia (L.take 0)=fun _=>none from rfl];exact hS.sub AV)⟩
 case round=>
  clear hS
  obtain ⟨i,hi,rfl,hS⟩:=hrel
  by_cases hlt:i<n
  ·obtain ⟨b2,rfl⟩:=Cb hS AM (by omega)
   obtain ⟨⟨s,l,k⟩,hx⟩:∃x,L[i]? =some x:=⟨_,List.getElem?_eq_getElem (by rw [HLl.out];exact hlt)⟩
   have hseg:=VW L i _ hx
   dsimp only at hseg
   have ht:L.take (i+1)=L.take i++[(s,l,k)]:=by rw [List.take_add_one,hx];rfl
   have H1:=AD (XE (L.take i) s l k)
   have H2:=AD (WG (L.take i) s l k)
   rw [←ht] at H1 H2
   clear hx ht
   repeat' (first
    | refine X2 ?_|(refine AQ 15 ?_);(refine Aq AA (V.indexSl Tryz.underlying204 iO rfl rfl BJ (by omega) rfl BT) ?_;go_step)|(with_reducible refine Ak _ (.load 197 _) ?_);(refine Ad ?_;apply Iw hS 197 _ rfl _ _ rfl 3 (AN rfl) _ _ _ _ _;(case hp=>exact AM);(case hi=>omega);(case hl'=>with_reducible assumption);refine AB ?_;go_step)|refine fj 5 ?_;clear hS;intro g5 w hS|refine fq ?_;clear hS;intro w hS|refine AG ?_;go_step|fail)
   refine AP [7] (fun w=>St w0 w [blk g5 ([s,(l:Int),(k:Int)].map (Value.int .i64)),blk g9 [.map (some g6), .map (some g7)]]) AA ?_
   replace hS:=hS.drew
   focus
    refine AY 0 ?_
    refine CA 1 BZ (V.nilCheck rfl) ?_;go_step
    refine CA 2 BZ (V.fieldAddr PK rfl BT) ?_;go_step
    apply DG 3 Ai AA AA AA B5 [7] AA (hS.sub AV)
    case hfr=>intro w hS;((refine Ad ?_;apply AZ hS 199 _ rfl _ _ rfl (AK rfl) _;(case hp=>exact AM);(case hc=>rfl);refine AB ?_;go_step));refine wpList_nil ?_;exact ⟨rfl,rfl⟩
    case hd=>rfl
    refine CA 4 BZ (V.fieldAddr Ua rfl BT) ?_;go_step
    refine Y5 5 [7] ?_
    apply DG 6 Ai AA AA AA B5 [7] AA (hS.sub AV)
    case hfr=>intro w hS;((refine Ad ?_;apply CP hS 197 _ rfl _ rfl 3 (AN rfl) _;(case hp=>exact AM);(case hn=>rfl);refine AB ?_;go_step));refine wpList_nil ?_;exact ⟨rfl,rfl⟩
    case hd=>rfl
    refine Ao 7 ?_
    (refine Es (enc:=ik) hS 199 _ _ _ rfl _ rfl _ rfl Tryz.underlying199 (Cl Tryz.underlying3) _ AM _ (by (first|exact D0.int rfl|exact D0.bool rfl|exact D0.slice rfl|exact D0.pointer rfl|exact D0.string rfl|exact D0.map rfl|exact D0.func rfl|exact D0.agg rfl)) rfl ?_;clear hS;intro w hS)
    refine ⟨fun h=>absurd (by decide) h,?_⟩
    refine AE AA ?_ _
   all_goals
    repeat' (first
     | refine AG ?_;go_step|fail)
    refine AP [11] (fun w=>St w0 w [blk g5 ([s,(l:Int),(k:Int)].map (Value.int .i64)),blk g9 [.map (some g6), .map (some g7)]]) AA ?_
    replace hS:=hS.drew
    focus
     refine AY 0 ?_
     refine CA 1 BZ (V.nilCheck rfl) ?_;go_step
     refine CA 2 BZ (V.fieldAddr PL rfl BT) ?_;go_step
     apply DG 3 Ai AA AA AA B5 [11] AA (hS.sub AV)
     case hfr=>intro w hS;((refine Ad ?_;apply AZ hS 200 _ rfl _ _ rfl (AK rfl) _;(case hp=>exact AM);(case hc=>rfl);refine AB ?_;go_step));refine wpList_nil ?_;exact ⟨rfl,rfl⟩
     case hd=>rfl
     refine CA 4 BZ (V.fieldAddr Ub rfl BT) ?_;go_step
     refine Y5 5 [8,11] ?_
     refine CA 6 BZ (V.fieldAddr Uc rfl BT) ?_;go_step
     refine Y5 7 [8,11] ?_
     refine CA 8 BZ (V.build (vs:=[(0,_),(1,_)]) rfl (KC _ _)) ?_;go_step
     refine CA 9 BZ (V.fieldAddr Ua rfl BT) ?_;go_step
     refine Y5 10 [11] ?_
     refine Ao 11 ?_
     (refine Es (enc:=pk) hS 200 _ _ _ rfl _ rfl (_,_) rfl Tryz.underlying200 (G0 Tryz.underlying206 Tryz.underlying3 Ef) _ AM _ (by (first|exact D0.int rfl|exact D0.bool rfl|exact D0.slice rfl|exact D0.pointer rfl|exact D0.string rfl|exact D0.map rfl|exact D0.func rfl|exact D0.agg rfl)) rfl ?_;clear hS;intro w hS)
     refine ⟨fun h=>absurd (by decide) h,?_⟩
     refine AE AA ?_ _
    all_goals
     repeat' (first
      | refine X1 ?_|refine X6 ?_|refine AG ?_;go_step|fail)
     go_roundg (gk-1)
     case measure=>omega
     case rel=>
      refine ⟨i+1,by omega,by go_num,?_⟩
      rw [←H1.out,←H2.out]
      exact hS.sub AV
  obtain rfl:i=n:=by omega
  rw [show L.take i=L by rw [←HLl.out];exact List.take_length] at hS
  repeat' (first
   | refine X0 ?_|refine X2 ?_|refine AG ?_;go_step|fail)
  go_ret
  refine ⟨g9,rfl,St.close (g6,g7) ?_⟩
  rw [HL.out]
  exact hS.sub AV
def wb(L:List (Int×Nat×Nat))(s:Int):List Bool:=match symW L s with
 | some y=>Ax y.1 y.2
 | none=>[]
theorem MM(W w0:World)(rs rs' rs2:List Au)(g g2:Nat)(L:List (Int×Nat×Nat))(bs:List Bool)(s:Int)(hL:DN L)(hS:St W w0 rs)(hp:AW (ML g L) rs rs')(hp2:AW (wr g2 bs) rs' rs2)(hb:bs.length≤1000000000000):
 Calls Tryz.prog 110 #[.pointer (some ⟨g,0,none⟩), .pointer (some ⟨g2,0,none⟩), .int .i64 s] w0 fun e w=>e= .returned (.bool (symW L s).isSome)∧St W w (ML g L::wr g2 (bs++wb L s)::rs2):=by
 obtain ⟨⟨m1,m2⟩,hS⟩:=(hS.pull hp).open
 dsimp only [List.cons_append,List.nil_append] at hS
 have HG:=AD hL
 clear hL
 have hp3:AW (wr g2 bs) (blk g [.map (some m1), .map (some m2)]::mp ik m1 (Io L)::mp pk m2 (Ia L)::rs') (blk g [.map (some m1), .map (some m2)]::mp ik m1 (Io L)::mp pk m2 (Ia L)::rs2):= .tail (.tail (.tail hp2))
 cases hs:symW L s with
 | none=>
   have hf:Io L s=none:=by unfold Io;rw [hs];rfl
   have HB:=AD (show wb L s=[] by unfold wb;rw [hs])
   clear hs
   go_enter Tryz.func110,Tryz.ntmps110
   repeat' (first
    | refine X0 ?_|refine Vt ?_|(with_reducible refine Ak _ (.fieldAddr 202 _ 0) ?_);(refine Aq AA (V.fieldAddr PK rfl BT) ?_;go_step)|refine X7 ?_|refine jk ?_|(refine AQ 15 ?_);(refine Ad ?_;apply K5 (enc:=ik) hS 199 _ _ rfl _ rfl _ rfl Tryz.underlying199 (Cl Tryz.underlying3) (.agg #[.int .i64 0, .int .i64 0, .int .i64 0]) (fun w=>Tryz.zeroValue197 w) _;(case hp=>exact AM);(case hf=>with_reducible assumption);refine AB ?_;go_step)|refine fj 7 ?_;clear hS;intro g7 w hS|refine fq ?_;clear hS;intro w hS|refine AG ?_;go_step|fail)
   go_ret
   refine ⟨rfl,St.close (m1,m2) ?_⟩
   rw [HB.out,List.append_nil]
   exact (hS.pull (.tail hp3)).sub AV
 | some y=>
   obtain ⟨l,k⟩:=y
   have hm:=GB hs
   obtain ⟨g1,g2',g3⟩:=HG.out.long _ hm
   dsimp only at g1 g2' g3
   have hf:Io L s=some (.agg #[.int .i64 s, .int .i64 (l:Int), .int .i64 (k:Int)]):=by unfold Io;rw [hs];rfl
   have HB:=AD (show wb L s=Ax l k by unfold wb;rw [hs])
   have HK:=AD (show k<2^l by omega)
   clear hs hm g3
   go_enter Tryz.func110,Tryz.ntmps110
   repeat' (first
    | (refine Am 111 ?_);refine An AA Tryz.call111 (Pg W _ _ _ g2 bs l k hS (.tail hp3) (by omega) HK.out (by omega)) ?_;clear hS;rintro e w ⟨rfl,hS⟩;refine Ab ?_;go_step|refine X0 ?_|refine Vt ?_|(with_reducible refine Ak _ (.fieldAddr 202 _ 0) ?_);(refine Aq AA (V.fieldAddr PK rfl BT) ?_;go_step)|refine X7 ?_|(with_reducible refine Ak _ (.fieldAddr 197 _ 1) ?_);(refine Aq AA (V.fieldAddr Ub rfl BT) ?_;go_step)|(with_reducible refine Ak _ (.fieldAddr 197 _ 2) ?_);(refine Aq AA (V.fieldAddr Uc rfl BT) ?_;go_step)|refine jk ?_|(refine AQ 15 ?_);(refine Ad ?_;apply K6 (enc:=ik) hS 199 _ _ rfl _ rfl _ rfl Tryz.underlying199 (Cl Tryz.underlying3) (.agg #[.int .i64 0, .int .i64 0, .int .i64 0]) (fun w=>Tryz.zeroValue197 w) _;(case hp=>exact AM);(case hf=>with_reducible assumption);refine AB ?_;go_step)|refine fj 7 ?_;clear hS;intro g7 w hS|refine fq ?_;clear hS;intro w hS|refine E6 ?_|refine AG ?_;go_step|fail)
   go_ret
   refine ⟨rfl,St.close (m1,m2) ?_⟩
   rw [HB.out]
   exact hS.sub AV
def IJ(L:List (Int×Nat×Nat))(l:List Nat)(i:Nat):Nat→Nat→Int×Int×Nat
 | 0,d=>(0,4,i+d)
 | f+1,d=>if 8*l.length<i+(d+1) then (0,3,i+d) else match codW L (((d+1:Nat):Int),(BG l i (d+1):Int)) with
   | some s=>(s,0,i+(d+1))
   | none=>IJ L l i f (d+1)
theorem Wq(l:List Nat)(i d:Nat)(h:i+d<8*l.length):BG l i (d+1)=2*BG l i d+BG l (i+d) 1:=by
 rw [Ik l i d h]
 congr 1
 have:=Ik l (i+d) 0 (by omega)
 rw [Nat.zero_add] at this
 rw [this,show BG l (i+d) 0=0 by unfold BG;rw [List.take_zero];rfl];simp
theorem AC.prt{P:Program}{W w:World}{rs rs':List Au}{tmps:Array Value}{p g n:Nat}{ty:TypeId}{ps:List Ag}(hS:St W w rs)(hp:tmps.getD p undef= .pointer (some ⟨g,0,none⟩))(h1:Fi P ty n)(pl:AW (Go.Proofs.YtohacgmhmbijmaaGreatDoor.prt g ps) rs rs')(hn:Bx ps n ps):AC P tmps w (.cell p ty) (.agg (AH ps).toArray):=
 AC.blk hS hp h1 pl hn.take.2
section
variable{P:Program}{Q:Exit→Act→World→Prop}{a:Act}{W w:World}{c:Code}
theorem bC{F:Nat→Nat→Nat→Act}(rs:Nat→Nat→Nat→List Au)(h:c.wp P (fun e a w=>e= .normal∧∃g g' g2,a=F g g' g2∧St W w (rs g g' g2)) a w)(k:∀g g' g2 w,St W w (rs g g' g2)→Q .normal (F g g' g2) w):c.wp P Q a w:=
 Code.wp_mono (fun e a w ⟨he,g,g',g2,ha,hS⟩=>by subst he;subst ha;exact k g g' g2 w hS) h
end
theorem V4(a0:Option Addr)(a1:Option Addr)(w:World):(Instr.build 181 #[(0, .pointer a0),(1, .pointer a1)]).run Tryz.prog w= .ok (.agg #[.pointer a0, .pointer a1]) w:=by kernel_rfl
theorem YP (w:World):(Instr.build 171 #[]).run Tryz.prog w= .ok (.agg #[.slice none 0 0, .int .u64 0, .int .i64 0]) w:=by kernel_rfl
theorem Vz(a0:Option Addr)(a1:Option Addr)(w:World):(Instr.build 140 #[(0, .pointer a0),(1, .pointer a1)]).run Tryz.prog w= .ok (.agg #[.pointer a0, .pointer a1]) w:=by kernel_rfl
theorem YO (w:World):(Instr.build 155 #[]).run Tryz.prog w= .ok (.agg #[.int .i64 0, .int .i64 0, .int .i64 0]) w:=by kernel_rfl
theorem V3(m0:Int)(m1:Int)(w:World):(Instr.build 155 #[(0, .int .i64 m0),(1, .int .i64 m1)]).run Tryz.prog w= .ok (.agg #[.int .i64 m0, .int .i64 m1, .int .i64 0]) w:=by kernel_rfl
def fG(g:Nat)(L1 L2:List (Int×Nat×Nat)):Au:=gv fun x:Nat×Nat=>[blk g [.pointer (some ⟨x.1,0,none⟩), .pointer (some ⟨x.2,0,none⟩)],ML x.1 L1,ML x.2 L2]
theorem EY(C:List Int)(v:Value)(h:Ae C 16):(AH [.ints C, .val v]).length=17:=by
 have:=h.out
 simp [AH,Ag.cells,this]
theorem kN(C1 C2:List Int)(v1 v2:Value):AH [.ints C1, .val v1]++(AH [.ints C2, .val v2]++[])=AH [.ints C1, .val v1, .ints C2, .val v2]:=by
 simp [AH,Ag.cells]
theorem Jk{W w:World}{rs:List Au}{g:Nat}{C1 C2:List Int}{v1 v2:Value}(hS:St W w (blk g (AH [.ints C1, .val v1]++(AH [.ints C2, .val v2]++[]))::rs)):St W w (prt g [.ints C1, .val v1, .ints C2, .val v2]::rs):=by
 rw [kN] at hS;exact hS
def Eu(C1 S1 C2 S2:List Int):Int:=if A5 C1 S1=0 then A5 C2 S2 else A5 C1 S1
theorem Q9(w0:World)(C1 C2 S1 S2:List Int)(a1 a2:Option Addr)(n1 n2 k1 k2:Nat)(hC1:Ae C1 16)(hC2:Ae C2 16)(hs1:Sl w0 1 (.slice a1 n1 k1) n1 (S1.map (Value.int .i64)))(hs2:Sl w0 1 (.slice a2 n2 k2) n2 (S2.map (Value.int .i64)))(hn1:n1≤9223372036854775807)(hn2:n2≤9223372036854775807)(E:Int)(hE:Eu C1 S1 C2 S2=E)(h0:E≠0):
 Calls Tryz.prog 85 #[.agg (AH [.ints C1, .val (.slice a1 n1 k1), .ints C2, .val (.slice a2 n2 k2)]).toArray] w0 fun e w=>e= .returned (.tuple #[.pointer none, .int .i64 E])∧Ah w0 w:=by
 have hS:=St.start w0
 have hL1:=AD (EY C1 (.slice a1 n1 k1) hC1)
 have hL2:=AD (EY C2 (.slice a2 n2 k2) hC2)
 obtain ⟨E1,hE1⟩:∃x,A5 C1 S1=x:=⟨_,rfl⟩
 obtain ⟨E2,hE2⟩:∃x,A5 C2 S2=x:=⟨_,rfl⟩
 have HE1:=AD hE1
 have HE2:=AD hE2
 have he:(if E1=0 then E2 else E1)=E:=by rw [←hE1,←hE2];exact hE
 have HE:=AD he
 clear hE1 hE2 hE he
 go_enter Tryz.func85,Tryz.ntmps85
 repeat' (first
  | (refine AQ 11 ?_);refine Ad ?_;refine AU (o:=⟨some 11,_,_,_,_,_⟩) hS 115 2 _ rfl 32 17 152 OQ _ _ (AX.agg rfl hL1.out (AX.agg rfl hL2.out AX.nil)) rfl (by decide) (by decide) ?_;clear hS;intro g11 w hS;replace hS:=Jk hS;refine AB ?_;go_step|refine X0 ?_|refine ep ?_|refine ew ?_|refine Vh ?_|refine SN 1 ?_;clear hS;intro g1 w hS|refine L8 ?_|refine AG ?_;go_step|fail)
 clear hL1 hL2
 go_loopg [13] 2 (fun gk kv w=>∃k:Nat,gk+k=2∧kv= .int .i64 k∧(1≤k→E1=0)∧(2≤k→E2=0)∧St w0 w [prt g1 [.ints C1, .val (.slice a1 n1 k1), .ints C2, .val (.slice a2 n2 k2)],prt g11 [.ints C1, .val (.slice a1 n1 k1), .ints C2, .val (.slice a2 n2 k2)]])
 case atStart=>exact ⟨0,rfl,rfl,fun h=>absurd h (by omega),fun h=>absurd h (by omega),hS.sub AV⟩
 case round=>
  clear hS
  obtain ⟨k,hk,rfl,HA,HB,hS⟩:=hrel
  by_cases hlt:k<2
  ·obtain rfl|rfl:k=0∨k=1:=by omega
   ·repeat' (first
     | (refine Am 73 ?_);refine An AA Tryz.call73 (Cv _ C1 S1 a1 n1 k1 hC1 (hs1.ext hS.1) hn1) ?_;rintro e w ⟨rfl,hE2⟩;rw [HE1.out];replace hS:=hS.ext hE2;clear hE2;refine Ab ?_;go_step|refine X0 ?_|refine X2 ?_|refine YH 15 ?_|refine X5 ?_|refine X6 ?_|refine L8 ?_|refine SM 5 ?_;clear hS;intro g5 w hS|refine SO ?_;clear hS;intro w hS|refine AG ?_;go_step|fail)
    ·refine AO (xs:=[_,_]) rfl (.cons (AC.tmp rfl) (.cons (AC.tmp rfl) (.nil))) (by simp) rfl ?_
     exact ⟨by have h:=HE.out;rw [if_neg (by omega)] at h;rw [h];rfl,hS.1⟩
    go_roundg (gk-1)
    case measure=>omega
    case rel=>exact ⟨1,by omega,rfl,fun _=>by omega,fun h=>absurd h (by omega),hS.sub AV⟩
   have h1:=HA (by omega)
   subst h1
   repeat' (first
    | (refine Am 73 ?_);refine An AA Tryz.call73 (Cv _ C2 S2 a2 n2 k2 hC2 (hs2.ext hS.1) hn2) ?_;rintro e w ⟨rfl,hE2⟩;rw [HE2.out];replace hS:=hS.ext hE2;clear hE2;refine Ab ?_;go_step|refine X0 ?_|refine X2 ?_|refine YH 15 ?_|refine X5 ?_|refine X6 ?_|refine L8 ?_|refine SM 5 ?_;clear hS;intro g5 w hS|refine SO ?_;clear hS;intro w hS|refine AG ?_;go_step|fail)
   ·refine AO (xs:=[_,_]) rfl (.cons (AC.tmp rfl) (.cons (AC.tmp rfl) (.nil))) (by simp) rfl ?_
    exact ⟨by have h:=HE.out;rw [if_pos rfl] at h;rw [h];rfl,hS.1⟩
   go_roundg (gk-1)
   case measure=>omega
   case rel=>exact ⟨2,by omega,rfl,fun _=>rfl,fun _=>by omega,hS.sub AV⟩
  have h1:=HA (by omega)
  have h2:=HB (by omega)
  exact absurd (by have h:=HE.out;rw [if_pos h1,h2] at h;exact h.symm) h0
theorem JL(w0:World)(C1 C2 S1 S2:List Int)(a1 a2:Option Addr)(n1 n2 k1 k2:Nat)(hC1:Ae C1 16)(hC2:Ae C2 16)(hs1:Sl w0 1 (.slice a1 n1 k1) n1 (S1.map (Value.int .i64)))(hs2:Sl w0 1 (.slice a2 n2 k2) n2 (S2.map (Value.int .i64)))(hn1:n1≤9223372036854775807)(hn2:n2≤9223372036854775807)(hE1:A5 C1 S1=0)(hE2:A5 C2 S2=0):
 Calls Tryz.prog 85 #[.agg (AH [.ints C1, .val (.slice a1 n1 k1), .ints C2, .val (.slice a2 n2 k2)]).toArray] w0 fun e w=>∃g,e= .returned (.tuple #[.pointer (some ⟨g,0,none⟩), .int .i64 0])∧St w0 w [fG g (CE C1 S1) (CE C2 S2)]:=by
 have hS:=St.start w0
 have hL1:=AD (EY C1 (.slice a1 n1 k1) hC1)
 have hL2:=AD (EY C2 (.slice a2 n2 k2) hC2)
 have HE1:=AD hE1
 have HE2:=AD hE2
 clear hE1 hE2
 go_enter Tryz.func85,Tryz.ntmps85
 repeat' (first
  | (refine AQ 11 ?_);refine Ad ?_;refine AU (o:=⟨some 11,_,_,_,_,_⟩) hS 115 2 _ rfl 32 17 152 OQ _ _ (AX.agg rfl hL1.out (AX.agg rfl hL2.out AX.nil)) rfl (by decide) (by decide) ?_;clear hS;intro g11 w hS;replace hS:=Jk hS;refine AB ?_;go_step|refine X0 ?_|refine ep ?_|refine ew ?_|refine Vh ?_|refine SN 1 ?_;clear hS;intro g1 w hS|refine L8 ?_|refine AG ?_;go_step|fail)
 clear hL1 hL2
 go_loopg [13] 2 (fun gk kv w=>∃k:Nat,gk+k=2∧kv= .int .i64 k∧St w0 w [prt g1 [.ints C1, .val (.slice a1 n1 k1), .ints C2, .val (.slice a2 n2 k2)],prt g11 [.ints C1, .val (.slice a1 n1 k1), .ints C2, .val (.slice a2 n2 k2)]])
 case atStart=>exact ⟨0,rfl,rfl,hS.sub AV⟩
 case round=>
  clear hS
  obtain ⟨k,hk,rfl,hS⟩:=hrel
  by_cases hlt:k<2
  ·obtain rfl|rfl:k=0∨k=1:=by omega
   ·repeat' (first
     | (refine Am 73 ?_);refine An AA Tryz.call73 (Cv _ C1 S1 a1 n1 k1 hC1 (hs1.ext hS.1) hn1) ?_;rintro e w ⟨rfl,hE2⟩;rw [HE1.out];replace hS:=hS.ext hE2;clear hE2;refine Ab ?_;go_step|refine X0 ?_|refine X2 ?_|refine YH 15 ?_|refine X5 ?_|refine L8 ?_|refine SM 5 ?_;clear hS;intro g5 w hS|refine SO ?_;clear hS;intro w hS|refine AG ?_;go_step|fail)
    repeat' (first
     | refine X1 ?_|refine X6 ?_|refine AG ?_;go_step|fail)
    all_goals (try exact AS)
    go_roundg (gk-1)
    case measure=>omega
    case rel=>exact ⟨1,by omega,rfl,hS.sub AV⟩
   repeat' (first
    | (refine Am 73 ?_);refine An AA Tryz.call73 (Cv _ C2 S2 a2 n2 k2 hC2 (hs2.ext hS.1) hn2) ?_;rintro e w ⟨rfl,hE2⟩;rw [HE2.out];replace hS:=hS.ext hE2;clear hE2;refine Ab ?_;go_step|refine X0 ?_|refine X2 ?_|refine YH 15 ?_|refine X5 ?_|refine L8 ?_|refine SM 5 ?_;clear hS;intro g5 w hS|refine SO ?_;clear hS;intro w hS|refine AG ?_;go_step|fail)
   repeat' (first
    | refine X1 ?_|refine X6 ?_|refine AG ?_;go_step|fail)
   all_goals (try exact AS)
   go_roundg (gk-1)
   case measure=>omega
   case rel=>exact ⟨2,by omega,rfl,hS.sub AV⟩
  obtain rfl:k=2:=by omega
  repeat' (first
   | refine X2 ?_|refine AG ?_;go_step|fail)
  apply bC (rs:=fun g25 g28 g30=>[fG g30 (CE C1 S1) (CE C2 S2)])
  ·refine AP [5,7] (fun w=>St w0 w [prt g1 [.ints C1, .val (.slice a1 n1 k1), .ints C2, .val (.slice a2 n2 k2)]]) AA ?_
   replace hS:=hS.drew
   focus
    refine CA 0 BZ (V.fieldAddr Yt rfl BT) ?_;go_step
    apply DG 1 Ai AA AA AA B5 [2,5,6,7,8,9] AA (hS.sub AV)
    case hfr=>intro w hS;((refine Ad ?_;apply DK hS 32 _ rfl _ _ rfl 17 (AN rfl) _;(case hp=>exact AM);(case hi=>(repeat (first|(apply Hn.head;(repeat (first|exact Bx.nil|(apply Bx.ints;(case hn=>exact D6);(case h=>omega);(case hm=>rfl))|apply Bx.val)))|(apply Hn.skipI;(case hn=>exact D6);(case h=>omega);(case ho=>rfl))|apply Hn.skipV)));refine AB ?_;go_step));refine wpList_nil ?_;exact ⟨rfl,rfl⟩
    case hd=>rfl
    refine CA 3 BZ (V.fieldAddr Yu rfl BT) ?_;go_step
    apply DG 4 Ai AA AA AA B5 [5,6,7,8,9] AA (hS.sub AV)
    case hfr=>intro w hS;((refine Ad ?_;apply DK hS 32 _ rfl _ _ rfl 17 (AN rfl) _;(case hp=>exact AM);(case hi=>(repeat (first|(apply Hn.head;(repeat (first|exact Bx.nil|(apply Bx.ints;(case hn=>exact D6);(case h=>omega);(case hm=>rfl))|apply Bx.val)))|(apply Hn.skipI;(case hn=>exact D6);(case h=>omega);(case ho=>rfl))|apply Hn.skipV)));refine AB ?_;go_step));refine wpList_nil ?_;exact ⟨rfl,rfl⟩
    case hd=>rfl
    refine Ao 2 ?_
    refine AR (f:=118) rfl Tryz.call118 (JN _ C1 S1 a1 n1 k1 hC1 (hs1.ext hS.1) hn1 HE1.out) ?_;rintro e w ⟨g25,rfl,hS2⟩;replace hS:=hS.call1 hS2;clear hS2;refine ⟨_,rfl,?_⟩
    refine ⟨fun _ _=>hS.sub AV,?_⟩
    refine AI ?_
    go_step
    refine Ao 5 ?_
    refine AR (f:=118) rfl Tryz.call118 (JN _ C2 S2 a2 n2 k2 hC2 (hs2.ext hS.1) hn2 HE2.out) ?_;rintro e w ⟨g28,rfl,hS2⟩;replace hS:=hS.call1 hS2;clear hS2;refine ⟨_,rfl,?_⟩
    refine ⟨fun h=>absurd (by decide) h,?_⟩
    refine AI ?_
    go_step
    refine CA 6 BZ (V.build (vs:=[(0,_),(1,_)]) rfl (V4 _ _)) ?_;go_step
    refine Ao 7 ?_
    (refine CZ (o:=⟨some 30,_,_,_,_,_⟩) hS 181 _ rfl _ rfl ?_;clear hS;intro g30 w hS)
    refine ⟨fun h=>absurd (by decide) h,?_⟩
    refine AI ?_
    go_step
    refine lL 8 BZ ?_;go_step
    refine lL 9 BZ ?_;go_step
    refine AE AA ?_ _
    exact ⟨rfl,g25,g28,g30,rfl,St.close (g25,g28) (by dsimp only [List.cons_append,List.nil_append];exact hS.sub AV)⟩
  clear hS
  intro g25 g28 g30 w hS
  repeat' (first|(refine AG ?_;go_step)|fail)
  refine AO (xs:=[_,_]) rfl (.cons (AC.tmp rfl) (.cons (AC.tmp rfl) (.nil))) (by simp) rfl ?_
  exact ⟨g30,rfl,hS⟩
end Go.Proofs.YtohacgmhmbijmaaGreatDoor
/-
  DERIVED:THE SHELF's CONTRACTS AT THIS DUMP,IN PLAIN WORDS (tools/lay-plain.mjs out of 'TryzShelf.lean',which tools/lay-shelf.mjs wrote):THE SAME DECLARATIONS UNDER THE SAME NAMES:'import', 'namespace', 'open', 'def', 'theorem' AND NOTHING ELSE:no command of the shelf's:FOR A HAND-IN. Each laying:the table of numbers ('.._ren') and one theorem,a field a fact of the dump's own or the kernel's comparison;each contract:ONE APPLICATION.
-/
namespace Go.Proofs
open Go.Shelf
def Tryz.lays125_ren:Go.Shelf.Ren:=⟨fun|125=>153|128=>158|129=>159|n=>n,fun|46=>116|3=>3|51=>220|53=>169|4=>4|5=>5|9=>9|n=>n,fun|n=>n⟩
theorem Tryz.lays125:Go.Proofs.Lays.n125 Tryz.prog Tryz.lays125_ren:={
  mixed:=by kernel_rfl
  f125:=Tryz.func153.trans (congrArg some (by kernel_rfl))
  f128:=Tryz.func158.trans (congrArg some (by kernel_rfl))
  f129:=Tryz.func159.trans (congrArg some (by kernel_rfl))
  t3:=Tryz.underlying3
  a3:=Tryz.isAgg3
  z3:=Tryz.sizeOf3
  v3:=Tryz.zeroValue3
  t4:=Tryz.underlying4
  a4:=Tryz.isAgg4
  z4:=Tryz.sizeOf4
  v4:=Tryz.zeroValue4
  t5:=Tryz.underlying5
  a5:=Tryz.isAgg5
  z5:=Tryz.sizeOf5
  v5:=Tryz.zeroValue5
  t9:=Tryz.underlying9
  a9:=Tryz.isAgg9
  z9:=Tryz.sizeOf9
  v9:=Tryz.zeroValue9
  t46:=Tryz.underlying116
  a46:=Tryz.isAgg116
  z46:=Tryz.sizeOf116
  v46:=Tryz.zeroValue116
  t51:=Tryz.underlying220
  a51:=Tryz.isAgg220
  z51:=Tryz.sizeOf220
  v51:=Tryz.zeroValue220
  t53:=Tryz.underlying169
  a53:=Tryz.isAgg169
  z53:=Tryz.sizeOf169
  v53:=Tryz.zeroValue169}
/-- bits.Len: "Len returns the minimum number of bits required to represent x; the result is 0 for x == 0.": IT RETURNS 'Lib.bitLen x'; the world is as it was. (A uint has 64 bits in the model.) ITS CALLEE bits.Len64 IS MET BY ITS OWN CONTRACT OFF THE SHELF (lay that first). (LAID: no walk: one application.) -/
theorem Tryz.bits_Len(x:Int)(w:World)(h0:0≤x)(h1:x≤18446744073709551615):
    Calls Tryz.prog 153 #[.int .u64 x] w fun e w'=>e= .returned (.int .i64 (Lib.bitLen x.toNat))∧w'=w:=Any.bits_Len Tryz.lays125 x w h0 h1
def Tryz.lays185_ren:Go.Shelf.Ren:=⟨fun|185=>142|187=>148|115=>70|253=>149|224=>150|254=>151|255=>156|291=>157|n=>n,fun|37=>35|3=>3|4=>4|0=>0|5=>5|46=>116|9=>9|146=>221|51=>220|n=>n,fun|1=>0|n=>n⟩
theorem Tryz.lays185:Go.Proofs.Lays.n185 Tryz.prog Tryz.lays185_ren:={
  mixed:=by kernel_rfl
  f115:=Tryz.func70.trans (congrArg some (by kernel_rfl))
  f185:=Tryz.func142.trans (congrArg some (by kernel_rfl))
  f187:=Tryz.func148.trans (congrArg some (by kernel_rfl))
  f224:=Tryz.func150.trans (congrArg some (by kernel_rfl))
  f253:=Tryz.func149.trans (congrArg some (by kernel_rfl))
  f254:=Tryz.func151.trans (congrArg some (by kernel_rfl))
  f255:=Tryz.func156.trans (congrArg some (by kernel_rfl))
  f291:=Tryz.func157.trans (congrArg some (by kernel_rfl))
  t0:=Tryz.underlying0
  a0:=Tryz.isAgg0
  z0:=Tryz.sizeOf0
  v0:=Tryz.zeroValue0
  t3:=Tryz.underlying3
  a3:=Tryz.isAgg3
  z3:=Tryz.sizeOf3
  v3:=Tryz.zeroValue3
  t4:=Tryz.underlying4
  a4:=Tryz.isAgg4
  z4:=Tryz.sizeOf4
  v4:=Tryz.zeroValue4
  t5:=Tryz.underlying5
  a5:=Tryz.isAgg5
  z5:=Tryz.sizeOf5
  v5:=Tryz.zeroValue5
  t9:=Tryz.underlying9
  a9:=Tryz.isAgg9
  z9:=Tryz.sizeOf9
  v9:=Tryz.zeroValue9
  t37:=Tryz.underlying35
  a37:=Tryz.isAgg35
  z37:=Tryz.sizeOf35
  v37:=Tryz.zeroValue35
  t46:=Tryz.underlying116
  a46:=Tryz.isAgg116
  z46:=Tryz.sizeOf116
  v46:=Tryz.zeroValue116
  t51:=Tryz.underlying220
  a51:=Tryz.isAgg220
  z51:=Tryz.sizeOf220
  v51:=Tryz.zeroValue220
  t146:=Tryz.underlying221
  a146:=Tryz.isAgg221
  z146:=Tryz.sizeOf221
  v146:=Tryz.zeroValue221
  g1:=by kernel_rfl}
def Tryz.laysSlB13_ren:Go.Shelf.Ren:=⟨fun|13=>141|24=>146|25=>147|12=>142|31=>155|19=>148|20=>70|21=>149|22=>150|23=>151|29=>156|30=>157|n=>n,fun|22=>35|3=>3|4=>4|0=>0|5=>5|9=>9|33=>116|40=>221|39=>220|n=>n,fun|0=>0|n=>n⟩
theorem Tryz.laysSlB13:Go.Proofs.SlLaysB.n13 Tryz.prog Tryz.laysSlB13_ren:={
  mixed:=by kernel_rfl
  f13:=Tryz.func141.trans (congrArg some (by kernel_rfl))
  f25:=Tryz.func147.trans (congrArg some (by kernel_rfl))
  t0:=Tryz.underlying0
  a0:=Tryz.isAgg0
  z0:=Tryz.sizeOf0
  v0:=Tryz.zeroValue0
  t3:=Tryz.underlying3
  a3:=Tryz.isAgg3
  z3:=Tryz.sizeOf3
  v3:=Tryz.zeroValue3
  t4:=Tryz.underlying4
  a4:=Tryz.isAgg4
  z4:=Tryz.sizeOf4
  v4:=Tryz.zeroValue4
  t5:=Tryz.underlying5
  a5:=Tryz.isAgg5
  z5:=Tryz.sizeOf5
  v5:=Tryz.zeroValue5
  t22:=Tryz.underlying35
  a22:=Tryz.isAgg35
  z22:=Tryz.sizeOf35
  v22:=Tryz.zeroValue35}
open Go.RowKit Go.Lib in
/-- The same, s AT WHATEVER ADDRESS, its cells as 'open_ints' hands them ('a.add i'). (LAID: no walk: one application.) -/
theorem Tryz.bytes_Count_one_at(a:Addr)(n c b2 o2 d:Nat)(xs:List Int)(cv:Int)(w:World)(hx:xs.length=n)(hc:∀i,i<n→w.cell? (a.add i)=some (.int .u8 (xs.getD i 0)))(hc2:w.cell? ⟨b2,o2,none⟩=some (.int .u8 cv)):
    Calls Tryz.prog 141 #[.slice (some a) n c, .slice (some ⟨b2,o2,none⟩) 1 d] w fun e w'=>e= .returned (.int .i64 (Lib.countByte (Lib.bytesOf xs) cv.toNat.toUInt8))∧w'=w:=Any.bytes_Count_one_at Tryz.laysSlB13 a n c b2 o2 d xs cv w hx hc hc2
open Go.RowKit Go.Lib in
/-- The same where s is nil: 0. (LAID: no walk: one application.) -/
theorem Tryz.bytes_Count_one_nil(b2 o2 d:Nat)(cv:Int)(w:World)(hc2:w.cell? ⟨b2,o2,none⟩=some (.int .u8 cv)):
    Calls Tryz.prog 141 #[.slice none 0 0, .slice (some ⟨b2,o2,none⟩) 1 d] w fun e w'=>e= .returned (.int .i64 0)∧w'=w:=Any.bytes_Count_one_nil Tryz.laysSlB13 b2 o2 d cv w hc2
open Go.RowKit Go.Lib in
/-- bytes.Index at a separator of one byte, s at whatever address. (LAID: no walk: one application.) -/
theorem Tryz.bytes_Index_one_at(a:Addr)(n c b2 o2 d:Nat)(xs:List Int)(cv:Int)(w:World)(hx:xs.length=n)(hc:∀i,i<n→w.cell? (a.add i)=some (.int .u8 (xs.getD i 0)))(hc2:w.cell? ⟨b2,o2,none⟩=some (.int .u8 cv)):
    Calls Tryz.prog 142 #[.slice (some a) n c, .slice (some ⟨b2,o2,none⟩) 1 d] w fun e w'=>e= .returned (.int .i64 (Lib.indexByte (Lib.bytesOf xs) cv.toNat.toUInt8))∧w'=w:=Any.bytes_Index_one_at Tryz.lays185 a n c b2 o2 d xs cv w hx hc hc2
def Tryz.lays115_ren:Go.Shelf.Ren:=⟨fun|115=>70|n=>n,fun|37=>35|4=>4|9=>9|5=>5|n=>n,fun|n=>n⟩
open Go.Proofs Go.RowKit Go.Lib in
/-- bytes.Index, WHOLE: "Index returns the index of the first instance of sep in s, or -1 if sep is not present in s.": 'Lib.index' of the two lists of bytes. (LAID: no walk: one application.) -/
theorem Tryz.bytes_Index_at(a1 a2:Addr)(n c1 k c2:Nat)(xs ys:List Int)(m:Int)(w:World)(hx:xs.length=n)(hy:ys.length=k)(hr1:∀x∈xs,0≤x∧x<256)(hr2:∀y∈ys,0≤y∧y<256)(hc1:∀i,i<n→w.cell? (a1.add i)=some (.int .u8 (xs.getD i 0)))(hc2:∀i,i<k→w.cell? (a2.add i)=some (.int .u8 (ys.getD i 0)))(hcap:n≤c1)(hs:n<4294967281)(hk:k≤9223372036854775807)(hm:w.cell? ⟨0,0,none⟩=some (.int .i64 m)):
    Calls Tryz.prog 142 #[.slice (some a1) n c1, .slice (some a2) k c2] w fun e w'=>e= .returned (.int .i64 (Lib.index (Lib.bytesOf xs) (Lib.bytesOf ys)))∧∃q,w'=w.drewN q:=Any.bytes_Index_at Tryz.lays185 a1 a2 n c1 k c2 xs ys m w hx hy hr1 hr2 hc1 hc2 hcap hs hk hm
def Tryz.laysM185_ren:Go.Shelf.Ren:=⟨fun|185=>142|187=>148|115=>70|253=>149|224=>150|254=>151|255=>156|291=>157|n=>n,fun|37=>35|3=>3|4=>4|0=>0|5=>5|46=>116|9=>9|146=>221|51=>220|n=>n,fun|1=>0|n=>n⟩
theorem Tryz.laysM185:Go.Proofs.LaysM.n185 Tryz.prog Tryz.laysM185_ren:={
  mixed:=by kernel_rfl
  f115:=Tryz.func70.trans (congrArg some (by kernel_rfl))
  f185:=Tryz.func142.trans (congrArg some (by kernel_rfl))
  f187:=Tryz.func148.trans (congrArg some (by kernel_rfl))
  f224:=Tryz.func150.trans (congrArg some (by kernel_rfl))
  f253:=Tryz.func149.trans (congrArg some (by kernel_rfl))
  f254:=Tryz.func151.trans (congrArg some (by kernel_rfl))
  f255:=Tryz.func156.trans (congrArg some (by kernel_rfl))
  f291:=Tryz.func157.trans (congrArg some (by kernel_rfl))
  t0:=Tryz.underlying0
  a0:=Tryz.isAgg0
  z0:=Tryz.sizeOf0
  v0:=Tryz.zeroValue0
  t3:=Tryz.underlying3
  a3:=Tryz.isAgg3
  z3:=Tryz.sizeOf3
  v3:=Tryz.zeroValue3
  t4:=Tryz.underlying4
  a4:=Tryz.isAgg4
  z4:=Tryz.sizeOf4
  v4:=Tryz.zeroValue4
  t5:=Tryz.underlying5
  a5:=Tryz.isAgg5
  z5:=Tryz.sizeOf5
  v5:=Tryz.zeroValue5
  t9:=Tryz.underlying9
  a9:=Tryz.isAgg9
  z9:=Tryz.sizeOf9
  v9:=Tryz.zeroValue9
  t37:=Tryz.underlying35
  a37:=Tryz.isAgg35
  z37:=Tryz.sizeOf35
  v37:=Tryz.zeroValue35
  t46:=Tryz.underlying116
  a46:=Tryz.isAgg116
  z46:=Tryz.sizeOf116
  v46:=Tryz.zeroValue116
  t51:=Tryz.underlying220
  a51:=Tryz.isAgg220
  z51:=Tryz.sizeOf220
  v51:=Tryz.zeroValue220
  t146:=Tryz.underlying221
  a146:=Tryz.isAgg221
  z146:=Tryz.sizeOf221
  v146:=Tryz.zeroValue221
  g1:=by kernel_rfl
  i0:=by kernel_rfl
  i3:=by kernel_rfl
  i4:=by kernel_rfl
  i5:=by kernel_rfl
  i9:=by kernel_rfl
  i37:=by kernel_rfl
  i46:=by kernel_rfl
  i51:=by kernel_rfl
  i146:=by kernel_rfl
  m1:=by kernel_rfl
  s1_3:=fun w h=>Go.Proofs.cell_of_shapedOpen_int (zero:=#[.int .i64 0]) (t:=3) h (of_decide_eq_true (by kernel_rfl)) (by kernel_rfl) rfl (by kernel_rfl) (by kernel_rfl) Tryz.underlying3}
def Tryz.laysSlC13_ren:Go.Shelf.Ren:=⟨fun|13=>141|24=>146|25=>147|12=>142|31=>155|19=>148|20=>70|21=>149|22=>150|23=>151|29=>156|30=>157|n=>n,fun|22=>35|3=>3|4=>4|0=>0|5=>5|9=>9|33=>116|40=>221|39=>220|n=>n,fun|0=>0|n=>n⟩
theorem Tryz.laysSlC13:Go.Proofs.SlLaysC.n13 Tryz.prog Tryz.laysSlC13_ren:={
  mixed:=by kernel_rfl
  f12:=Tryz.func142.trans (congrArg some (by kernel_rfl))
  f13:=Tryz.func141.trans (congrArg some (by kernel_rfl))
  f19:=Tryz.func148.trans (congrArg some (by kernel_rfl))
  f20:=Tryz.func70.trans (congrArg some (by kernel_rfl))
  f21:=Tryz.func149.trans (congrArg some (by kernel_rfl))
  f22:=Tryz.func150.trans (congrArg some (by kernel_rfl))
  f23:=Tryz.func151.trans (congrArg some (by kernel_rfl))
  f25:=Tryz.func147.trans (congrArg some (by kernel_rfl))
  f29:=Tryz.func156.trans (congrArg some (by kernel_rfl))
  f30:=Tryz.func157.trans (congrArg some (by kernel_rfl))
  t0:=Tryz.underlying0
  a0:=Tryz.isAgg0
  z0:=Tryz.sizeOf0
  v0:=Tryz.zeroValue0
  t3:=Tryz.underlying3
  a3:=Tryz.isAgg3
  z3:=Tryz.sizeOf3
  v3:=Tryz.zeroValue3
  t4:=Tryz.underlying4
  a4:=Tryz.isAgg4
  z4:=Tryz.sizeOf4
  v4:=Tryz.zeroValue4
  t5:=Tryz.underlying5
  a5:=Tryz.isAgg5
  z5:=Tryz.sizeOf5
  v5:=Tryz.zeroValue5
  t9:=Tryz.underlying9
  a9:=Tryz.isAgg9
  z9:=Tryz.sizeOf9
  v9:=Tryz.zeroValue9
  t22:=Tryz.underlying35
  a22:=Tryz.isAgg35
  z22:=Tryz.sizeOf35
  v22:=Tryz.zeroValue35
  t33:=Tryz.underlying116
  a33:=Tryz.isAgg116
  z33:=Tryz.sizeOf116
  v33:=Tryz.zeroValue116
  t39:=Tryz.underlying220
  a39:=Tryz.isAgg220
  z39:=Tryz.sizeOf220
  v39:=Tryz.zeroValue220
  t40:=Tryz.underlying221
  a40:=Tryz.isAgg221
  z40:=Tryz.sizeOf221
  v40:=Tryz.zeroValue221
  g0:=by kernel_rfl}
open Go.RowKit Go.Lib in
/-- bytes.Count at a separator of two bytes or more: "Count counts the number of non-overlapping instances of sep in s.": 'Lib.count' of the two lists of bytes. (LAID: no walk: one application.) -/
theorem Tryz.bytes_Count_at(a1 a2:Addr)(n c1 k c2:Nat)(xs ys:List Int)(m:Int)(w:World)(hx:xs.length=n)(hy:ys.length=k)(hr1:∀x∈xs,0≤x∧x<256)(hr2:∀y∈ys,0≤y∧y<256)(hc1:∀i,i<n→w.cell? (a1.add i)=some (.int .u8 (xs.getD i 0)))(hc2:∀i,i<k→w.cell? (a2.add i)=some (.int .u8 (ys.getD i 0)))(hcap:n≤c1)(hs:n<4294967281)(hk:k≤9223372036854775807)(h2:2≤k)(hm:w.cell? ⟨0,0,none⟩=some (.int .i64 m)):
    Calls Tryz.prog 141 #[.slice (some a1) n c1, .slice (some a2) k c2] w fun e w'=>e= .returned (.int .i64 (Lib.count (Lib.bytesOf xs) (Lib.bytesOf ys)))∧∃q,w'=w.drewN q:=Any.bytes_Count_at Tryz.laysSlC13 a1 a2 n c1 k c2 xs ys m w hx hy hr1 hr2 hc1 hc2 hcap hs hk h2 hm
open Go.RowKit Go.Lib in
/-- bytes.Count at a separator of two bytes or more where s is nil: 0. (LAID: no walk: one application.) -/
theorem Tryz.bytes_Count_nil(p2:Option Addr)(k c2:Nat)(w:World)(h2:2≤k)(hk:k≤9223372036854775807):
    Calls Tryz.prog 141 #[.slice none 0 0, .slice p2 k c2] w fun e w'=>e= .returned (.int .i64 0)∧w'=w:=Any.bytes_Count_nil Tryz.laysSlC13 p2 k c2 w h2 hk
def Tryz.laysSlK4_ren:Go.Shelf.Ren:=⟨fun|4=>69|n=>n,fun|22=>35|4=>4|5=>5|n=>n,fun|n=>n⟩
theorem Tryz.laysSlK4:Go.Proofs.SlLaysK.n4 Tryz.prog Tryz.laysSlK4_ren:={
  mixed:=by kernel_rfl
  f4:=Tryz.func69.trans (congrArg some (by kernel_rfl))
  t4:=Tryz.underlying4
  a4:=Tryz.isAgg4
  z4:=Tryz.sizeOf4
  v4:=Tryz.zeroValue4
  t22:=Tryz.underlying35
  a22:=Tryz.isAgg35
  z22:=Tryz.sizeOf35
  v22:=Tryz.zeroValue35
  t5:=Tryz.underlying5
  i5:=by kernel_rfl}
open Go.RowKit Go.Lib in
/-- bytes.Clone: "Clone returns a copy of b[:len(b)]. The result may have additional unused capacity.": OF A SLICE THAT IS NOT nil IT RETURNS A SLICE THAT IS NOT nil, OF THE SAME BYTES, IN MEMORY OF THE CALL's OWN: in the how-to's words (6f): 'w'.ownsRow B e 1 v' n cells' · 'Below B w w'', B the heap's size at the call. b AT WHATEVER ADDRESS, its cells as 'open_ints' hands them ('a.add i'; the numbers 'xs'). No byte: no cell is asked for. (LAID: no walk: one application.) -/
theorem Tryz.bytes_Clone_at(a:Addr)(n c:Nat)(xs:List Int)(w:World)(hx:xs.length=n)(hbig:n≤140737488355328)(hc:∀i,i<n→w.cell? (a.add i)=some (.int .u8 (xs.getD i 0))):
    Calls Tryz.prog 69 #[.slice (some a) n c] w fun e w'=>∃v',e= .returned v'∧w'.ownsRow w.heap.size 5 1 v' n (xs.map (Value.int .u8))∧v'≠ .slice none 0 0∧Below w.heap.size w w':=Any.bytes_Clone_at Tryz.laysSlK4 a n c xs w hx hbig hc
open Go.RowKit Go.Lib in
/-- "Clone(nil) returns nil.": the world is as it was. (LAID: no walk: one application.) -/
theorem Tryz.bytes_Clone_nil(n c:Nat)(w:World):
    Calls Tryz.prog 69 #[.slice none n c] w fun e w'=>e= .returned (.slice none 0 0)∧w'=w:=Any.bytes_Clone_nil Tryz.laysSlK4 n c w
def Tryz.laysnb115_ren:Go.Shelf.Ren:=⟨fun|115=>70|n=>n,fun|37=>35|4=>4|9=>9|5=>5|n=>n,fun|n=>n⟩
theorem Tryz.laysnb115:Go.Proofs.Lays.nb115 Tryz.prog Tryz.laysnb115_ren:={
  mixed:=by kernel_rfl
  f115:=Tryz.func70.trans (congrArg some (by kernel_rfl))
  t4:=Tryz.underlying4
  a4:=Tryz.isAgg4
  z4:=Tryz.sizeOf4
  v4:=Tryz.zeroValue4
  t9:=Tryz.underlying9
  a9:=Tryz.isAgg9
  z9:=Tryz.sizeOf9
  v9:=Tryz.zeroValue9
  t37:=Tryz.underlying35
  a37:=Tryz.isAgg35
  z37:=Tryz.sizeOf35
  v37:=Tryz.zeroValue35
  t5:=Tryz.underlying5
  a5:=Tryz.isAgg5
  z5:=Tryz.sizeOf5
  v5:=Tryz.zeroValue5}
/-- bytes.Equal: WHOLE. (LAID: no walk: one application.) -/
theorem Tryz.bytes_Equal_all(p1 p2:Option Addr)(n c m d:Nat)(xs ys:List Int)(w:World)(hx:xs.length=n)(hy:ys.length=m)(h1:Lib.BytesIn w p1 n xs)(h2:Lib.BytesIn w p2 m ys):
    Calls Tryz.prog 70 #[.slice p1 n c, .slice p2 m d] w fun e w'=>e= .returned (.bool (Lib.bytesOf xs==Lib.bytesOf ys))∧w'=w:=Any.bytes_Equal_all Tryz.laysnb115 p1 p2 n c m d xs ys w hx hy h1 h2
end Go.Proofs
namespace Go.Proofs.YtohacgmhmbijmaaGreatDoor
attribute [local irreducible] Region.wanted
open Go.RowKit
set_option linter.unusedVariables false
set_option maxRecDepth 100000
set_option maxHeartbeats 8000000
def KD(n:Nat):Nat:=if n=0 then 0 else n.log2+1
theorem Hq(n:Nat):n<2^KD n∧(0<n→1≤KD n∧2^(KD n-1)≤n):=by
 unfold KD
 by_cases h:n=0
 ·subst h;simp
 rw [if_neg h]
 exact ⟨Nat.lt_log2_self,fun _=>⟨by omega,by rw [Nat.add_sub_cancel];exact Nat.log2_self_le h⟩⟩
theorem LT(n k:Nat)(h:n<2^k):KD n≤k:=by
 obtain ⟨_,h2⟩:=Hq n
 rcases Nat.eq_zero_or_pos n with h0|h0
 ·subst h0;simp [KD]
 obtain ⟨h3,h4⟩:=h2 h0
 have h5:=Nat.lt_of_le_of_lt h4 h
 have:=(Nat.pow_lt_pow_iff_right (show 1<2 by omega)).1 h5
 omega
theorem QT(n k:Nat)(h1:2^k≤n)(h2:n<2^(k+1)):KD n=k+1:=by
 have h3:=LT n (k+1) h2
 obtain ⟨h4,_⟩:=Hq n
 have h5:=Nat.lt_of_le_of_lt h1 h4
 have:=(Nat.pow_lt_pow_iff_right (show 1<2 by omega)).1 h5
 omega
theorem YS(n:Nat)(h:n<2^64):Lib.bitLen n=KD n:=by
 rcases Nat.eq_zero_or_pos n with h0|h0
 ·subst h0;rfl
 obtain ⟨h1,h2,h3⟩:=Lib.bitLenAux_bounds 64 n h (by omega)
 have:=QT n (Lib.bitLen n-1) h2 (by rw [show Lib.bitLen n-1+1=Lib.bitLen n by have:1≤Lib.bitLen n:=h1;omega];exact h3)
 have h4:1≤Lib.bitLen n:=h1
 omega
theorem Uj(x:Nat)(w:World)(h:x<65536):Calls Tryz.prog 153 #[.int .u64 x] w fun e w'=>e= .returned (.int .i64 (KD x))∧w=w':=
 (Tryz.bits_Len x w (by omega) (by omega)).mono fun e w' ⟨h1,h2⟩=>⟨by rw [h1,Int.toNat_natCast,YS x (by omega)],h2.symm⟩
def sz(n:Int):Nat:=KD n.natAbs
def sv(n:Int):Int:=if n<0 then n+(2^sz n-1:Nat) else n
theorem VI(n:Int)(h: -4096<n∧n<4096):sz n≤12:=LT _ 12 (by omega)
theorem Pp(n:Int)(w:World)(h0: -4096<n)(h1:n<4096):
 Calls Tryz.prog 144 #[.int .i64 n] w fun e w'=>e= .returned (.tuple #[.int .i64 (sz n), .int .i64 (sv n), .int .i64 0])∧w=w':=by
 obtain ⟨m,hm⟩:∃m,m=n.natAbs:=⟨_,rfl⟩
 have hmax:max n (-n)=(m:Int):=by omega
 have hm4:m<4096:=by omega
 have hu:IntKind.u64.wrap (m:Int)=(m:Int):=by simp [IntKind.wrap,IntKind.signed,IntKind.bits];omega
 have h2: -4095≤n:=by omega
 obtain ⟨k,hk⟩:∃k,KD m=k:=⟨_,rfl⟩
 have hk12:k≤12:=by rw [←hk];exact LT m 12 (by omega)
 have HV:=AD (show sv n=if n<0 then n+(2^sz n-1:Nat) else n from rfl)
 have HK:=AD hk
 have HZ:Hid (sz n=k):=by unfold Hid sz;rw [←hm,hk]
 have HPW:=AD (mask_i64 k (by omega))
 have hp1:2^k≤2^12:=Nat.pow_le_pow_right (by omega) hk12
 have hp0:=Nat.two_pow_pos k
 have hq4:2^k-1≤4095:=by omega
 obtain ⟨q,hq⟩:∃q,2^k-1=q:=⟨_,rfl⟩
 rw [hq] at HPW hq4
 have HQ:=AD hq
 have hk64:(k:Int)<64:=by omega
 clear hm hp1 hp0 hq hk
 by_cases hn:n<0
 ·have HV2:Hid (sv n=n+(q:Int)):=by unfold Hid;rw [HV.out,if_pos hn,HZ.out,HQ.out]
  clear HV
  have hpw:=HPW.out
  clear HPW
  go_enter Tryz.func144,Tryz.ntmps144
  go_wp2_with (go_at_call 153;refine (Uj m _ (by omega)).mono ?_;rintro e w' ⟨rfl,rfl⟩;rw [HK.out])
  refine bodyPost_ret (results_tmp3 rfl _ _ _) rfl ?_
  exact ⟨by rw [HZ.out,HV2.out];rfl,rfl⟩
 have HV2:Hid (sv n=n):=by unfold Hid;rw [HV.out,if_neg hn]
 clear HV HPW
 go_enter Tryz.func144,Tryz.ntmps144
 go_wp2_with (go_at_call 153;refine (Uj m _ (by omega)).mono ?_;rintro e w' ⟨rfl,rfl⟩;rw [HK.out])
 refine bodyPost_ret (results_tmp3 rfl _ _ _) rfl ?_
 exact ⟨by rw [HZ.out,HV2.out];rfl,rfl⟩
def Eb(k v:Nat):Int:=if 0<k∧v<2^(k-1) then (v:Int)-(2^k-1:Nat) else v
theorem Po(k v:Nat)(w:World)(hk:k≤12)(hv:v<2^k):
 Calls Tryz.prog 121 #[.int .i64 k, .int .i64 v] w fun e w'=>e= .returned (.tuple #[.int .i64 (Eb k v), .int .i64 0])∧w=w':=by
 have HPW:=AD (mask_i64 k (by omega))
 have HP:=AD (pow_i64 k (by omega))
 have hp1:2^k≤2^12:=Nat.pow_le_pow_right (by omega) hk
 have HB:=AD (show Eb k v=if 0<k∧v<2^(k-1) then (v:Int)-(2^k-1:Nat) else v from rfl)
 have hsh:0<k→((v:Int)/2^(k-1)==0)=decide (v<2^(k-1)):=fun h=>by
  have h3:((v:Int)/2^(k-1))=((v/2^(k-1):Nat):Int):=by push_cast;rfl
  rw [h3,Bool.eq_iff_iff]
  have h4:=Nat.two_pow_pos (k-1)
  have h5:=@Nat.div_eq_zero_iff v (2^(k-1))
  simp only [beq_iff_eq,decide_eq_true_eq]
  omega
 obtain ⟨q,hq⟩:∃q,2^k=q:=⟨_,rfl⟩
 rw [hq] at HPW hp1 hv HB HP
 have hq1:q-1≤4095:=by omega
 have hq0:k=0→q=1:=fun h=>by subst h;exact hq.symm
 clear hq
 have HF:Hid (wrap64 ((v:Int)-wrap64 ((q:Int)-1))=(v:Int)-((q-1:Nat):Int)):=by unfold Hid wrap64;omega
 have hv2:(v:Int)<(q:Int):=by omega
 have hv3:(0:Int)≤(v:Int):=by omega
 have hk1:(0:Int)≤(k:Int):=by omega
 have hk2:(k:Int)≤12:=by omega
 by_cases h0:k=0
 ·subst h0
  have hv0:v=0:=by have:=hq0 rfl;omega
  subst hv0
  have HV2:Hid (Eb 0 0=0):=by unfold Hid;rw [HB.out,if_neg (by omega)];rfl
  clear HB HP HPW hsh hv hp1 hq1 hq0 HF hv2 hv3 hk hk1 hk2
  go_enter Tryz.func121,Tryz.ntmps121
  go_wp2_with fail
  go_ret2
  exact ⟨by rw [HV2.out];rfl,rfl⟩
 obtain ⟨r,rfl⟩:∃r,k=r+1:=⟨k-1,by omega⟩
 have hr0:(0:Int)≤(r:Int):=by omega
 have hr64:(r:Int)<64:=by omega
 have hs1:IntKind.i64.wrap (((r+1:Nat):Int)-1)=(r:Int):=by simp [IntKind.wrap,IntKind.signed,IntKind.bits];omega
 have hsh':=hsh (by omega)
 rw [Nat.add_sub_cancel] at hsh' HB
 have hpos:¬((r+1:Nat):Int)≤0:=by omega
 have hpos2:(0:Int)<((r+1:Nat):Int):=by omega
 have hpw:=HP.out
 have hpm:=HPW.out
 clear hsh HP HPW hq1 hq0 hp1 hk h0
 have hyp:¬(q:Int)≤(v:Int):=by omega
 by_cases hlt:v<2^r
 ·have HV2:Hid (Eb (r+1) v=(v:Int)-((q-1:Nat):Int)):=by unfold Hid;rw [HB.out,if_pos ⟨by omega,hlt⟩]
  have hsh2:((v:Int)/2^r==0)=true:=by rw [hsh',decide_eq_true hlt]
  clear hsh' HB hlt hv
  go_enter Tryz.func121,Tryz.ntmps121
  go_wp2_with fail
  go_ret2
  exact ⟨by rw [HV2.out,←HF.out];rfl,rfl⟩
 have HV2:Hid (Eb (r+1) v=(v:Int)):=by unfold Hid;rw [HB.out,if_neg (fun h=>hlt h.2)]
 have hsh2:((v:Int)/2^r==0)=false:=by rw [hsh',decide_eq_false hlt]
 clear hsh' HB hlt hv HF
 go_enter Tryz.func121,Tryz.ntmps121
 go_wp2_with fail
 go_ret2
 exact ⟨by rw [HV2.out];rfl,rfl⟩
def Ju(s:Int×Int×Bool):Int×Int×Bool:=
 if s.2.2=true∧s.2.1=7 then (s.1+1,s.2.1,false)
 else if s.2.2=true∧s.1=0 then (s.1,s.2.1+1,false)
 else if s.2.2=true then (s.1-1,s.2.1+1,true)
 else if s.1=7 then (s.1,s.2.1+1,true)
 else if s.2.1=0 then (s.1+1,s.2.1,true)
 else (s.1+1,s.2.1-1,false)
def Xf:Nat→Int×Int×Bool
 | 0=>(0,0,true)
 | k+1=>Ju (Xf k)
def zn(k:Nat):Nat:=(8*(Xf k).1+(Xf k).2.1).toNat
def SA:List Nat:=(List.range 64).map zn
def zi:List Int:=SA.map fun (n:Nat)=>(n:Int)
theorem jE:∀k,k<64→0≤(Xf k).1∧(Xf k).1≤7∧0≤(Xf k).2.1∧(Xf k).2.1≤7:=by decide+kernel
def zl(k:Nat):List Int:=zi.take k++List.replicate (64-k) 0
theorem jA:∀k,k<65→(zl k).length=64:=by decide+kernel
theorem jB:∀k,k<64→(zl k).set k (8*(Xf k).1+(Xf k).2.1)=zl (k+1):=by decide+kernel
theorem i9:zl 64=zi:=by decide+kernel
theorem bL:zi.length=64:=by decide+kernel
theorem Nc(w:World):Calls Tryz.prog 99 #[] w fun e w'=>e= .returned (.agg (iv zi))∧Ah w w':=by
 go_enter Tryz.func99,Tryz.ntmps99
 go_wp2_with fail
 go_loopg [1,2,3,5] 64 (fun gk rv cv uv xv wr=>∃(i:Nat) (r c:Int) (u:Bool),gk+i=64∧xv= .int .i64 i∧rv= .int .i64 r∧cv= .int .i64 c∧uv= .bool u∧Hid (Xf i=(r,c,u))∧Dy wr w.heap.size (zl i)∧Ah w wr)
 case atStart=>exact ⟨0,0,0,true,rfl,rfl,rfl,rfl,rfl,rfl,Dy.new w (List.replicate 64 0) 25,(Ah.refl w).alloc _⟩
 case round=>
  obtain ⟨i,r,c,u,hi,rfl,rfl,rfl,rfl,hst,hrow,hE⟩:=hrel
  by_cases hlt:i<64
  ·have hb:=jE i hlt
   rw [hst.out] at hb
   dsimp only at hb
   obtain ⟨hb1,hb2,hb3,hb4⟩:=hb
   have hcell:=hrow.cell i (by rw [jA i (by omega)];exact hlt)
   have hfree:=hrow.free i
   have hset:=jB i hlt
   rw [hst.out] at hset
   have hrow2:=hrow.set i (8*r+c)
   rw [hset] at hrow2
   have hE2:Ah w (wr.setCell ⟨w.heap.size,i,none⟩ (.int .i64 (8*r+c))):=hE.setCell (Nat.le_refl _) _
   have hs:Hid (Xf (i+1)=Ju (r,c,u)):=by unfold Hid;rw [←hst.out];rfl
   clear hset hst
   have fin:∀(r' c':Int)(u':Bool),Ju (r,c,u)=(r',c',u')→Hid (Xf (i+1)=(r',c',u')):=fun r' c' u' h=>by rw [←h];exact hs
   clear hs
   have FIN:=AD fin
   clear fin
   have hi':gk-1+(i+1)=64:=by omega
   have HI:=AD hi'
   clear hi'
   have HR:=AD hrow2
   have HE:=AD hE2
   clear hrow2 hE2
   cases u
   ·by_cases h7:r=7
    ·subst h7
     go_wp2_with fail
     go_roundg (gk-1)
     case measure=>omega
     case rel=>exact ⟨i+1,_,_,_,HI.out,by go_num,rfl,rfl,rfl,FIN.out _ _ _ (by simp [Ju]),HR.out,HE.out⟩
    by_cases h0:c=0
    ·subst h0
     go_wp2_with fail
     go_roundg (gk-1)
     case measure=>omega
     case rel=>exact ⟨i+1,_,_,_,HI.out,by go_num,rfl,rfl,rfl,FIN.out _ _ _ (by simp [Ju];omega),by simpa using HR.out,by simpa using HE.out⟩
    go_wp2_with fail
    go_roundg (gk-1)
    case measure=>omega
    case rel=>exact ⟨i+1,_,_,_,HI.out,by go_num,rfl,rfl,rfl,FIN.out _ _ _ (by simp [Ju,h7,h0]),HR.out,HE.out⟩
   by_cases h7:c=7
   ·subst h7
    go_wp2_with fail
    go_roundg (gk-1)
    case measure=>omega
    case rel=>exact ⟨i+1,_,_,_,HI.out,by go_num,rfl,rfl,rfl,FIN.out _ _ _ (by simp [Ju]),HR.out,HE.out⟩
   by_cases h0:r=0
   ·subst h0
    go_wp2_with fail
    go_roundg (gk-1)
    case measure=>omega
    case rel=>exact ⟨i+1,_,_,_,HI.out,by go_num,rfl,rfl,rfl,FIN.out _ _ _ (by simp [Ju];omega),by simpa using HR.out,by simpa using HE.out⟩
   go_wp2_with fail
   go_roundg (gk-1)
   case measure=>omega
   case rel=>exact ⟨i+1,_,_,_,HI.out,by go_num,rfl,rfl,rfl,FIN.out _ _ _ (by simp [Ju,h7,h0]),HR.out,HE.out⟩
  obtain rfl:i=64:=by omega
  rw [i9] at hrow
  obtain ⟨t,hrow⟩:=hrow
  have hself:=setRow_self wr w.heap.size _ t _ hrow
  have hsz:(Tryz.prog.info? 25).map (·.size)=some (iv zi).size:=by rw [Ep,bL];kernel_rfl
  have HS:=AD hsz
  have HSelf:=AD hself
  clear hsz hself
  have hh:=AD hrow
  clear hrow
  go_wp2_with (first
   | refine wpList_load_row rfl 25 _ rfl w.heap.size rfl t (iv zi) (0,0) _ hh.out Tryz.underlying25 rfl HS.out ?_|(refine wpList_store_row rfl 25 _ _ rfl w.heap.size (iv zi) rfl rfl t (iv zi) hh.out HS.out rfl (MZ _) ?_;rw [HSelf.out]))
  refine bodyPost_ret (results_cell_row rfl _ wr w.heap.size t (iv zi) (0,0) _ rfl hh.out Tryz.underlying25 rfl HS.out) rfl ?_
  exact ⟨rfl,hE⟩
theorem bK(i:Nat)(h:i<64):(iv zi)[i]? =some (.int .i64 (zn i:Int)):=by
 rw [GT zi i (by rw [bL];exact h)]
 congr 2
 simp [AF,zi,SA,List.getD,List.getElem?_map,List.getElem?_range h]
theorem K9:∀i,i<64→zn i<64:=by decide+kernel
theorem bN(i:Nat)(h:i<64):(zn i:Int)<64:=by have:=K9 i h;omega
def Ez(l:List Int):List Int:=SA.map fun n=>AF l n
theorem bO:SA.length=64:=by decide+kernel
theorem CF(l:List Int):(Ez l).length=64:=by rw [Ez,List.length_map,bO]
theorem Gf(l:List Int)(i:Nat)(h:i<64):AF (Ez l) i=AF l (zn i):=by
 simp [AF,Ez,SA,List.getD,List.getElem?_map,List.getElem?_range h]
theorem Vb(w:World)(l:List Int)(hl:l.length=64):Calls Tryz.prog 65 #[.agg (iv l)] w fun e w'=>e= .returned (.agg (iv (Ez l)))∧Ah w w':=by
 go_enter Tryz.func65,Tryz.ntmps65
 go_wp2_with fail
 refine (Nc _).mono ?_
 rintro e w1 ⟨rfl,hE1⟩
 have hb:Dy w1 w.heap.size l:=((Dy.new w l 26).alloc _).ext hE1
 have ho:Dy w1 (w.heap.size+1) (Ds (Ez l) 0):=by
  rw [PD,CF]
  have h:=(Dy.new (w.alloc (.cells (iv l) 26)) (List.replicate 64 0) 26).ext hE1
  simpa using h
 have hE:Ah w w1:=(((Ah.refl w).alloc _).alloc _).trans hE1
 clear hE1
 go_wp2_with fail
 go_loopg [6] 64 (fun gk xv wr=>∃(i:Nat),gk+i=64∧xv= .int .i64 i∧Dy wr w.heap.size l∧Dy wr (w.heap.size+1) (Ds (Ez l) i)∧Ah w wr)
 case atStart=>exact ⟨0,rfl,rfl,hb,ho,hE⟩
 case round=>
  clear hb ho hE
  obtain ⟨i,hi,rfl,hb,ho,hE⟩:=hrel
  by_cases hlt:i<64
  ·have hz:=bK i hlt
   have hzl:=bN i hlt
   have hzl':=K9 i hlt
   have hcell:=hb.cell (zn i) (by omega)
   have hcell2:=ho.cell i (by rw [Qq _ _ (by rw [CF];omega),CF];exact hlt)
   have hfree:=ho.free i
   have ho2:=ho.set i (AF (Ez l) i)
   rw [Qr _ _ (by rw [CF];exact hlt),Gf _ _ hlt] at ho2
   have HB:=AD (hb.setOther ⟨w.heap.size+1,i,none⟩ (.int .i64 (AF l (zn i))) (by simp))
   have HO:=AD ho2
   have HE:=AD (hE.setCell (a:=⟨w.heap.size+1,i,none⟩) (by simp) (.int .i64 (AF l (zn i))))
   have hi':gk-1+(i+1)=64:=by omega
   have HI:=AD hi'
   clear hi' ho2
   go_wp2_with fail
   go_roundg (gk-1)
   case measure=>omega
   case rel=>exact ⟨i+1,HI.out,by go_num,HB.out,HO.out,HE.out⟩
  obtain rfl:i=64:=by omega
  have ho':Dy wr (w.heap.size+1) (Ez l):=by have h:=Qp (Ez l);rw [CF] at h;rw [h] at ho;exact ho
  clear ho
  obtain ⟨t,ho⟩:=ho'
  have HSelf:=AD (setRow_self wr (w.heap.size+1) _ t _ ho)
  have HS:=AD (show (Tryz.prog.info? 26).map (·.size)=some (iv (Ez l)).size by rw [Ep,CF];kernel_rfl)
  have hh:=AD ho
  clear ho
  go_wp2_with (first
   | refine wpList_load_row rfl 26 _ rfl (w.heap.size+1) rfl t (iv (Ez l)) (0,0) _ hh.out Tryz.underlying26 rfl HS.out ?_|(refine wpList_store_row rfl 26 _ _ rfl (w.heap.size+1) (iv (Ez l)) rfl rfl t (iv (Ez l)) hh.out HS.out rfl (MZ _) ?_;rw [HSelf.out]))
  refine bodyPost_ret (results_cell_row rfl _ wr (w.heap.size+1) t (iv (Ez l)) (0,0) _ rfl hh.out Tryz.underlying26 rfl HS.out) rfl ?_
  exact ⟨rfl,hE⟩
def ee(l:List Int)(k:Nat):List Int:=(List.range k).foldl (fun acc i=>acc.set (zn i) (AF l i)) (List.replicate 64 0)
def CW(l:List Int):List Int:=ee l 64
theorem NZ(l:List Int)(k:Nat):ee l (k+1)=(ee l k).set (zn k) (AF l k):=by
 simp [ee,List.range_succ,List.foldl_append]
theorem QE(l:List Int)(k:Nat):(ee l k).length=64:=by
 induction k with
 | zero=>rfl
 | succ k ih=>rw [NZ,List.length_set,ih]
theorem EP(l:List Int):(CW l).length=64:=QE l 64
theorem jC:∀i,i<64→∀j,j<64→zn i=zn j→i=j:=by decide+kernel
theorem Va:∀j,j<64→SA.idxOf j<64∧zn (SA.idxOf j)=j:=by decide+kernel
theorem QD(l:List Int)(k:Nat)(hk:k≤64)(i:Nat)(hi:i<k):AF (ee l k) (zn i)=AF l i:=by
 induction k with
 | zero=>omega
 | succ k ih=>
   rw [NZ]
   by_cases h:i=k
   ·subst h
    have hlt:zn i<(ee l i).length:=by rw [QE];exact K9 i (by omega)
    simp [AF,List.getD,hlt]
   have hne:¬zn k=zn i:=fun e=>h (jC k (by omega) i (by omega) e).symm
   have:=ih (by omega) (by omega)
   simp only [AF,List.getD,List.getElem?_set,if_neg hne] at this⊢
   exact this
theorem Mb(l m:List Int)(hl:l.length=64)(hm:m.length=64)(h:∀i,i<64→AF l i=AF m i):l=m:=by
 apply List.ext_getElem (by omega)
 intro i h1 h2
 have:=h i (by omega)
 simpa [AF,List.getD,List.getElem?_eq_getElem h1,List.getElem?_eq_getElem h2] using this
theorem Kh(l:List Int)(hl:l.length=64):Ez (CW l)=l:=
 Mb _ _ (CF _) hl fun i hi=>by rw [Gf _ i hi];exact QD l 64 (by omega) i hi
theorem O0(l:List Int)(hl:l.length=64):CW (Ez l)=l:=
 Mb _ _ (EP _) hl fun j hj=>by
  obtain ⟨h1,h2⟩:=Va j hj
  have h3:=QD (Ez l) 64 (by omega) _ h1
  rw [Gf _ _ h1,h2] at h3
  exact h3
theorem Kg(w:World)(l:List Int)(hl:l.length=64):Calls Tryz.prog 67 #[.agg (iv l)] w fun e w'=>e= .returned (.agg (iv (CW l)))∧Ah w w':=by
 go_enter Tryz.func67,Tryz.ntmps67
 go_wp2_with fail
 refine (Nc _).mono ?_
 rintro e w1 ⟨rfl,hE1⟩
 have hb:Dy w1 w.heap.size l:=((Dy.new w l 26).alloc _).ext hE1
 have ho:Dy w1 (w.heap.size+1) (ee l 0):=by
  have h:=(Dy.new (w.alloc (.cells (iv l) 26)) (List.replicate 64 0) 26).ext hE1
  have e:(w.alloc (.cells (iv l) 26)).heap.size=w.heap.size+1:=by simp
  rw [e] at h
  exact h
 have hE:Ah w w1:=(((Ah.refl w).alloc _).alloc _).trans hE1
 clear hE1
 go_wp2_with fail
 go_loopg [6] 64 (fun gk xv wr=>∃(i:Nat),gk+i=64∧xv= .int .i64 i∧Dy wr w.heap.size l∧Dy wr (w.heap.size+1) (ee l i)∧Ah w wr)
 case atStart=>exact ⟨0,rfl,rfl,hb,ho,hE⟩
 case round=>
  clear hb ho hE
  obtain ⟨i,hi,rfl,hb,ho,hE⟩:=hrel
  by_cases hlt:i<64
  ·have hz:=bK i hlt
   have hzl:=bN i hlt
   have hzl':=K9 i hlt
   have hcell:=hb.cell i (by omega)
   have hcell2:=ho.cell (zn i) (by rw [QE];exact hzl')
   have hfree:=ho.free (zn i)
   have ho2:=ho.set (zn i) (AF l i)
   rw [←NZ] at ho2
   have HB:=AD (hb.setOther ⟨w.heap.size+1,zn i,none⟩ (.int .i64 (AF l i)) (by simp))
   have HO:=AD ho2
   have HE:=AD (hE.setCell (a:=⟨w.heap.size+1,zn i,none⟩) (by simp) (.int .i64 (AF l i)))
   have hi':gk-1+(i+1)=64:=by omega
   have HI:=AD hi'
   clear hi' ho2
   go_wp2_with fail
   go_roundg (gk-1)
   case measure=>omega
   case rel=>exact ⟨i+1,HI.out,by go_num,HB.out,HO.out,HE.out⟩
  obtain rfl:i=64:=by omega
  obtain ⟨t,ho⟩:=ho
  have ho':wr.heap[w.heap.size+1]? =some (.cells (iv (CW l)) t (0,0)):=ho
  have HSelf:=AD (setRow_self wr (w.heap.size+1) _ t _ ho')
  have HS:=AD (show (Tryz.prog.info? 26).map (·.size)=some (iv (CW l)).size by rw [Ep,EP];kernel_rfl)
  have hh:=AD ho'
  clear ho ho'
  go_wp2_with (first
   | refine wpList_load_row rfl 26 _ rfl (w.heap.size+1) rfl t (iv (CW l)) (0,0) _ hh.out Tryz.underlying26 rfl HS.out ?_|(refine wpList_store_row rfl 26 _ _ rfl (w.heap.size+1) (iv (CW l)) rfl rfl t (iv (CW l)) hh.out HS.out rfl (MZ _) ?_;rw [HSelf.out]))
  refine bodyPost_ret (results_cell_row rfl _ wr (w.heap.size+1) t (iv (CW l)) (0,0) _ rfl hh.out Tryz.underlying26 rfl HS.out) rfl ?_
  exact ⟨rfl,hE⟩
end Go.Proofs.YtohacgmhmbijmaaGreatDoor
namespace Go.Proofs.YtohacgmhmbijmaaGreatDoor
attribute [local irreducible] Region.wanted
set_option linter.unusedVariables false
set_option maxRecDepth 100000
set_option maxHeartbeats 8000000
abbrev Cf:=Int×Int×Int
def FR(l:List Cf):List Int:=l.flatMap fun x=>[x.1,x.2.1,x.2.2]
theorem dS(l m:List Cf):FR (l++m)=FR l++FR m:=by simp [FR]
theorem MU(l:List Cf)(x:Cf):FR (l++[x])=FR l++[x.1,x.2.1,x.2.2]:=by simp [FR]
theorem UV:∀(l:List Cf)(k:Nat)(x:Cf),l[k]? =some x→((FR l).drop (k*3)).take 3=[x.1,x.2.1,x.2.2]
 | [],k,x,h=>by simp at h
 | y::l,0,x,h=>by
   obtain rfl:y=x:=by simpa using h
   simp [FR]
 | y::l,k+1,x,h=>by
   have:=UV l k x (by simpa using h)
   rw [show (k+1)*3=k*3+3 by omega]
   simp only [FR,List.flatMap_cons] at*
   rw [List.drop_append,List.drop_of_length_le (by simp)]
   simpa using this
theorem PG:∀{l m:List Cf},FR l=FR m→l=m
 | [],[],_=>rfl
 | [],y::m,h=>by simp [FR] at h
 | x::l,[],h=>by simp [FR] at h
 | x::l,y::m,h=>by
   simp only [FR,List.flatMap_cons,List.cons_append,List.nil_append,List.cons.injEq] at h
   obtain ⟨h1,h2,h3,h4⟩:=h
   have:=PG (l:=l) (m:=m) h4
   rw [this]
   congr 1
   exact Prod.ext h1 (Prod.ext h2 h3)
def IV(r:Nat)(n:Int):Cf:=(((r*16+sz n:Nat):Int),(sz n:Int),sv n)
def Fz:Cf:=(240,0,0)
def dP:Cf:=(0,0,0)
def Is:Nat→List Int→List Cf
 | r,[]=>if 0<r then [dP] else []
 | r,n::l=>if n=0 then Is (r+1) l else List.replicate (r/16) Fz++(IV (r%16) n::Is 0 l)
def Ba(before:Int)(z:List Int):List Cf:=IV 0 (AF z 0-before)::Is 0 (z.drop 1)
theorem VJ(n:Int)(h: -2048<n∧n<2048):sz n≤11:=LT _ 11 (by omega)
theorem iu(n:Int)(h:n≠0):1≤sz n:=by
 obtain ⟨_,h2⟩:=Hq n.natAbs
 exact (h2 (by omega)).1
theorem eR:sz 0=0:=by simp [sz,KD]
theorem eO:sv 0=0:=by simp [sv]
theorem Px:∀(l:List Int)(r:Nat),(Is r l).length≤r+l.length
 | [],r=>by
   rw [Is];split<;>simp
   omega
 | n::l,r=>by
   rw [Is]
   split
   ·have:=Px l (r+1);simp only [List.length_cons];omega
   have:=Px l 0
   simp only [List.length_append,List.length_replicate,List.length_cons]
   omega
theorem NM(before:Int)(z:List Int)(h:z.length=64):1≤(Ba before z).length∧(Ba before z).length≤64:=by
 have:=Px (z.drop 1) 0
 simp only [Ba,List.length_cons,List.length_drop] at*
 omega
end Go.Proofs.YtohacgmhmbijmaaGreatDoor
