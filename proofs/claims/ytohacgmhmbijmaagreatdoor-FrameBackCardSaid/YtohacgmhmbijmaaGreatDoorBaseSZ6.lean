/- What the laws RescueWhole TopTold FrameBack need, part 6. -/
import Derived.Test.YtohacgmhmbijmaaGreatDoorBaseSZ1
import Derived.Test.YtohacgmhmbijmaaGreatDoorBaseSZ2
import Derived.Test.YtohacgmhmbijmaaGreatDoorBaseSZ3
import Derived.Test.YtohacgmhmbijmaaGreatDoorBaseSZ4
import Derived.Test.YtohacgmhmbijmaaGreatDoorBaseSZ5
import Derived.Laws.Bits64b
import Derived.Shelf.Small.Bits
import Derived.Shelf.Strconv.Itoa0
import Derived.Shelf.Strings.Search1
import Derived.Shelf.Bytes.SlIndexSmall
import Derived.Ground.SlbNamesProg
import Derived.Shelf.Bytes.SlCountOne
import Derived.Shelf.Bytes.SlIndexAt
import Derived.Shelf.Bytes.SlSearch0
import Derived.Shelf.Bytes.SlSearch1
import Derived.Shelf.Bytes.SlSearch2
import Derived.Shelf.Bytes.SlIndexWhole
import Derived.Shelf.LaysM
import Derived.Shelf.Bytes.SlCountWhole
import Derived.Shelf.Bytes.SlSplit
import Derived.Ground.SlbCloneProg
import Derived.Shelf.Bytes.SlClone
import Derived.Shelf.Bytes.SlEqualAll
import Derived.Shelf.Bytes.Small
import Derived.Shelf.Bytes.IndexByte
import Derived.Test.YtohacgmhmbijmaaGreatDoorProg
import Derived.Lib.ItoaNum
namespace Go.Proofs.YtohacgmhmbijmaaGreatDoor
attribute [local irreducible] Region.wanted
open Go.RowKit
set_option linter.unusedVariables false
set_option maxRecDepth 100000
set_option maxHeartbeats 8000000
theorem OR(n m:Nat)(h:n≤m):2^n≤2^m:=Nat.pow_le_pow_right (by omega) h
theorem d9(A v width:Nat)(hA:A<128)(hw:width≤24)(hv:v<2^width):bits .or .u64 (IntKind.u64.wrap ((A:Int)*2^width)) (v:Int)=((A*2^width+v:Nat):Int):=by
 have h1:A*2^width<128*16777216:=by
  have h2:=OR width 24 hw
  have h3:A*2^width≤127*2^24:=Nat.mul_le_mul (by omega) h2
  omega
 have h4:=Nat.lt_of_lt_of_le hv (OR width 24 hw)
 have e1:IntKind.u64.wrap ((A:Int)*2^width)=((A*2^width:Nat):Int):=by
  rw [show (A:Int)*2^width=((A*2^width:Nat):Int) by push_cast;rfl]
  generalize A*2^width=x at h1
  simp [IntKind.wrap,IntKind.signed,IntKind.bits]
  omega
 rw [e1,bits_or_u64_nat _ _ (by omega) (by omega)]
 congr 1
 rw [←Nat.shiftLeft_eq,Nat.shiftLeft_add_eq_or_of_lt hv]
theorem Zw(N R:Nat)(hN:N<18446744073709551616)(hR:R<64):bits .and .u64 (N:Int) (IntKind.u64.wrap (IntKind.u64.wrap ((2:Int)^R)-1))=((N%2^R:Nat):Int):=by
 have h1:2^R≤2^63:=OR R 63 (by omega)
 have h0:0<2^R:=Nat.two_pow_pos R
 have e1:IntKind.u64.wrap (IntKind.u64.wrap ((2:Int)^R)-1)=((2^R-1:Nat):Int):=by
  rw [show (2:Int)^R=((2^R:Nat):Int) by push_cast;rfl]
  generalize 2^R=x at h1 h0
  simp [IntKind.wrap,IntKind.signed,IntKind.bits]
  omega
 rw [e1,bits_and_u64_nat _ _ hN (by omega),Nat.and_two_pow_sub_one_eq_mod]
def wr(g:Nat)(bs:List Bool):Aq:=df fun x:Option Addr×Nat=>
 [blk g [.slice x.1 (bs.length/8) x.2, .int .u64 (FG (bs.drop (8*(bs.length/8))):Nat), .int .i64 (bs.length%8:Nat)],
  own 5 1 x.1 (bs.length/8) x.2 (bv (CP (bs.length/8) bs))]
theorem OU(W w:World)(rs rs':List Aq)(g:Nat)(bs:List Bool)(width value:Nat)(hS:St W w rs)(hp:AU (wr g bs) rs rs')(hw:width≤24)(hv:value<2^width)(hb:bs.length+width≤1099511627776):
 Calls Tryz.prog 111 #[.pointer (some ⟨g,0,none⟩), .int .i64 width, .int .i64 value] w fun e w'=>e= .returned (.tuple #[])∧St W w' (wr g (bs++Ax width value)::rs'):=by
 obtain ⟨⟨ad,c⟩,hS⟩:=(hS.pull hp).open
 have hv24:value<16777216:=Nat.lt_of_lt_of_le hv (Nat.pow_le_pow_right (n:=2) (by omega) hw)
 have hrl:(bs.drop (8*(bs.length/8))).length=bs.length%8:=by simp;omega
 have hr8:FG (bs.drop (8*(bs.length/8)))<128:=by
  have h1:=H4 (bs.drop (8*(bs.length/8)))
  rw [hrl] at h1
  exact Nat.lt_of_lt_of_le h1 (Nat.pow_le_pow_right (n:=2) (j:=7) (by omega) (by omega))
 dsimp only [List.cons_append,List.nil_append] at hS
 generalize hA:FG (bs.drop (8*(bs.length/8)))=A at*
 generalize hM:bs.length%8=M at*
 have hm8:M<8:=by omega
 have HOR:=AD (d9 A value width (by omega) hw hv)
 go_enter Tryz.func111,Tryz.ntmps111
 go_wp2_with (first
  | ((with_reducible refine Ak _ (.load 169 _) ?_);first|(refine Bl AA (AZ hS 169 _ rfl _ _ rfl (AI rfl) _ AK _ (by rfl) ?_);refine AN (by (simp only [Act.put,List.setIfInBounds_toArray,List.set_cons_zero,List.set_cons_succ]);exact rfl) ?_)|(refine Bl AA (Ah hS 169 _ rfl _ _ rfl (AI rfl) _ _ _ _ _ AK _ (by with_reducible assumption) ?_);refine AN (by (simp only [Act.put,List.setIfInBounds_toArray,List.set_cons_zero,List.set_cons_succ]);exact rfl) ?_)|(refine Bl AA (Aj hS 169 _ rfl _ rfl (AI rfl) _ (by with_reducible assumption) ?_);refine AN (by (simp only [Act.put,List.setIfInBounds_toArray,List.set_cons_zero,List.set_cons_succ]);exact rfl) ?_))|refine ZN ?_;clear hS;intro w hS|((with_reducible refine Ak _ (.load 3 _) ?_);first|(refine Bl AA (BZ hS 3 _ rfl _ _ rfl (AI rfl) _ _ AK (by omega) ?_);refine AN (by (simp only [Act.put,List.setIfInBounds_toArray,List.set_cons_zero,List.set_cons_succ]);exact rfl) ?_)|(refine Bl AA (AZ hS 3 _ rfl _ _ rfl (AI rfl) _ AK _ (by rfl) ?_);refine AN (by (simp only [Act.put,List.setIfInBounds_toArray,List.set_cons_zero,List.set_cons_succ]);exact rfl) ?_)|(refine Bl AA (Ah hS 3 _ rfl _ _ rfl (AI rfl) _ _ _ _ _ AK _ (by with_reducible assumption) ?_);refine AN (by (simp only [Act.put,List.setIfInBounds_toArray,List.set_cons_zero,List.set_cons_succ]);exact rfl) ?_)|(refine Bl AA (Aj hS 3 _ rfl _ rfl (AI rfl) _ (by with_reducible assumption) ?_);refine AN (by (simp only [Act.put,List.setIfInBounds_toArray,List.set_cons_zero,List.set_cons_succ]);exact rfl) ?_))|refine ZO ?_;clear hS;intro w hS|((with_reducible refine Ak _ (.load 35 _) ?_);first|(refine Bl AA (AZ hS 35 _ rfl _ _ rfl (AI rfl) _ AK _ (by rfl) ?_);refine AN (by (simp only [Act.put,List.setIfInBounds_toArray,List.set_cons_zero,List.set_cons_succ]);exact rfl) ?_)|(refine Bl AA (Ah hS 35 _ rfl _ _ rfl (AI rfl) _ _ _ _ _ AK _ (by with_reducible assumption) ?_);refine AN (by (simp only [Act.put,List.setIfInBounds_toArray,List.set_cons_zero,List.set_cons_succ]);exact rfl) ?_)|(refine Bl AA (Aj hS 35 _ rfl _ rfl (AI rfl) _ (by with_reducible assumption) ?_);refine AN (by (simp only [Act.put,List.setIfInBounds_toArray,List.set_cons_zero,List.set_cons_succ]);exact rfl) ?_))|((refine AP 54 ?_);first|(refine Bl AA (AT (o:=⟨some 54,_,_,_,_,_⟩) hS 35 1 _ rfl 5 1 1 Hs _ _ (by (repeat (first|exact AW.nil|(apply AW.agg;(rfl);(rfl))|(apply AW.one;exact CC;(rfl);(rfl))))) (by rfl) (by decide) (by decide) ?_);clear hS;intro g54 w hS;refine AN (by (simp only [Act.put,List.setIfInBounds_toArray,List.set_cons_zero,List.set_cons_succ]);exact rfl) ?_))|refine ZP ?_;clear hS;intro w hS|(first|refine Dk ?_|refine DD ?_|refine DC ?_|refine Ei ?_))
 rw [HOR.out] at hS
 have HN:=AD (show FG (bs.drop (8*(bs.length/8))++Ax width value)=A*2^width+value by rw [Di,As,Ds _ _ hv,hA])
 have HT:=AD (show (bs.drop (8*(bs.length/8))++Ax width value).length=M+width by rw [List.length_append,As,hrl])
 generalize hT:M+width=T at*
 generalize hN:A*2^width+value=N at*
 generalize hq:bs.length/8=q at*
 have hBl:bs.length=8*q+M:=by omega
 have hX:CP (q+0) (bs++Ax width value)=CP q bs:=OM q bs _ (by omega)
 rw [←hX] at hS
 rw [show ((M:Int)+(width:Int))=((T:Nat):Int) by omega] at hS
 clear hX
 go_loopg [] 4 (fun gk wr=>∃(j:Nat) (ad':Option Addr) (c':Nat),gk+j=4∧8*j≤T∧St W wr (blk g [.slice ad' (q+j) c', .int .u64 (N:Nat), .int .i64 (T-8*j:Nat)]::own 5 1 ad' (q+j) c' (bv (CP (q+j) (bs++Ax width value)))::rs'))
 case atStart=>exact ⟨0,ad,c,rfl,by omega,hS⟩
 case round=>
  clear hS
  obtain ⟨j,ad',c',hj,hjT,hS⟩:=hrel
  generalize hR:T-8*j=R at*
  by_cases h8:8≤R
  ·obtain ⟨r,hr⟩:∃r,R=r+8:=⟨R-8,by omega⟩
   have hb1:IntKind.i64.wrap ((R:Int)-8)=(r:Int):=by simp [IntKind.wrap,IntKind.signed,IntKind.bits];omega
   have hb2:(0:Int)≤(r:Int):=by omega
   have hb3:(r:Int)<64:=by omega
   have HR:=AD hr
   have HP:=AD (show q+j+1≤maxLen∧(q+j+1)*1≤140737488355328 by unfold maxLen;omega)
   clear hr
   have HBy:Hid ((N:Int)/2^r%256=((FG (((bs++Ax width value).drop (8*(q+j))).take 8):Nat):Int)):=by
    have h1:=Lg (bs.drop (8*q)++Ax width value) (8*j) 8 (by rw [HT.out];omega)
    rw [HT.out,HN.out,show T-8*j-8=r by have:=HR.out;omega] at h1
    have h2:(bs++Ax width value).drop (8*(q+j))=(bs.drop (8*q)++Ax width value).drop (8*j):=by
     rw [Nat.mul_add,←List.drop_drop,List.drop_append_of_le_length (by omega)]
    unfold Hid
    rw [h2,h1]
    have h3:((N:Int)/2^r)=((N/2^r:Nat):Int):=by push_cast;rfl
    rw [h3]
    generalize N/2^r=y
    simp
   go_wp2_with (first
    | ((with_reducible refine Ak _ (.load 169 _) ?_);first|(refine Bl AA (AZ hS 169 _ rfl _ _ rfl (AI rfl) _ AK _ (by rfl) ?_);refine AN (by (simp only [Act.put,List.setIfInBounds_toArray,List.set_cons_zero,List.set_cons_succ]);exact rfl) ?_)|(refine Bl AA (Ah hS 169 _ rfl _ _ rfl (AI rfl) _ _ _ _ _ AK _ (by with_reducible assumption) ?_);refine AN (by (simp only [Act.put,List.setIfInBounds_toArray,List.set_cons_zero,List.set_cons_succ]);exact rfl) ?_)|(refine Bl AA (Aj hS 169 _ rfl _ rfl (AI rfl) _ (by with_reducible assumption) ?_);refine AN (by (simp only [Act.put,List.setIfInBounds_toArray,List.set_cons_zero,List.set_cons_succ]);exact rfl) ?_))|refine ZN ?_;clear hS;intro w hS|((with_reducible refine Ak _ (.load 3 _) ?_);first|(refine Bl AA (BZ hS 3 _ rfl _ _ rfl (AI rfl) _ _ AK (by omega) ?_);refine AN (by (simp only [Act.put,List.setIfInBounds_toArray,List.set_cons_zero,List.set_cons_succ]);exact rfl) ?_)|(refine Bl AA (AZ hS 3 _ rfl _ _ rfl (AI rfl) _ AK _ (by rfl) ?_);refine AN (by (simp only [Act.put,List.setIfInBounds_toArray,List.set_cons_zero,List.set_cons_succ]);exact rfl) ?_)|(refine Bl AA (Ah hS 3 _ rfl _ _ rfl (AI rfl) _ _ _ _ _ AK _ (by with_reducible assumption) ?_);refine AN (by (simp only [Act.put,List.setIfInBounds_toArray,List.set_cons_zero,List.set_cons_succ]);exact rfl) ?_)|(refine Bl AA (Aj hS 3 _ rfl _ rfl (AI rfl) _ (by with_reducible assumption) ?_);refine AN (by (simp only [Act.put,List.setIfInBounds_toArray,List.set_cons_zero,List.set_cons_succ]);exact rfl) ?_))|refine ZO ?_;clear hS;intro w hS|((with_reducible refine Ak _ (.load 35 _) ?_);first|(refine Bl AA (AZ hS 35 _ rfl _ _ rfl (AI rfl) _ AK _ (by rfl) ?_);refine AN (by (simp only [Act.put,List.setIfInBounds_toArray,List.set_cons_zero,List.set_cons_succ]);exact rfl) ?_)|(refine Bl AA (Ah hS 35 _ rfl _ _ rfl (AI rfl) _ _ _ _ _ AK _ (by with_reducible assumption) ?_);refine AN (by (simp only [Act.put,List.setIfInBounds_toArray,List.set_cons_zero,List.set_cons_succ]);exact rfl) ?_)|(refine Bl AA (Aj hS 35 _ rfl _ rfl (AI rfl) _ (by with_reducible assumption) ?_);refine AN (by (simp only [Act.put,List.setIfInBounds_toArray,List.set_cons_zero,List.set_cons_succ]);exact rfl) ?_))|((refine AP 54 ?_);first|(refine Bl AA (AT (o:=⟨some 54,_,_,_,_,_⟩) hS 35 1 _ rfl 5 1 1 Hs _ _ (by (repeat (first|exact AW.nil|(apply AW.agg;(rfl);(rfl))|(apply AW.one;exact CC;(rfl);(rfl))))) (by rfl) (by decide) (by decide) ?_);clear hS;intro g54 w hS;refine AN (by (simp only [Act.put,List.setIfInBounds_toArray,List.set_cons_zero,List.set_cons_succ]);exact rfl) ?_))|refine ZP ?_;clear hS;intro w hS|(first|refine Dk ?_|refine DD ?_|refine DC ?_|refine Ei ?_))
   refine AR [17,20] (fun w=>St W w [blk g [.slice ad' (q+j) c', .int .u64 (N:Nat), .int .i64 (R:Nat)]]) AA ?_
   replace hS:=hS.drew
   apply BR 0 Ar AA AA AA (fun _ _ _ _ h=>h)
   case hfr=>intro w;go_wp2_with fail;exact ⟨rfl,rfl⟩
   case hd=>rfl
   apply BR 1 Ar AA AA AA (fun _ _ _ _ h=>h)
   case hfr=>intro w;go_wp2_with fail;exact ⟨rfl,rfl⟩
   case hd=>rfl
   apply BR 2 Ar AA AA AA (fun _ _ _ _ h=>h)
   case hfr=>intro w;go_wp2_with fail;exact ⟨rfl,rfl⟩
   case hd=>rfl
   apply BR 3 Ar AA AA AA (fun _ _ _ _ h=>h)
   case hfr=>intro w;go_wp2_with fail;exact ⟨rfl,rfl⟩
   case hd=>rfl
   apply Cr 4 Ar AA AA AA (fun _ _ _ _ h=>h) [17,18,19,20] AA (hS.sub AV)
   case hfr=>intro w hS;go_wp2_with (first|(refine Bl AA (AZ hS 35 _ rfl _ _ rfl (AI rfl) _ AK _ (by rfl) ?_);refine AN (by (simp only [Act.put,List.setIfInBounds_toArray,List.set_cons_zero,List.set_cons_succ]);exact rfl) ?_)|(refine Bl AA (Ah hS 35 _ rfl _ _ rfl (AI rfl) _ _ _ _ _ AK _ (by with_reducible assumption) ?_);refine AN (by (simp only [Act.put,List.setIfInBounds_toArray,List.set_cons_zero,List.set_cons_succ]);exact rfl) ?_)|(refine Bl AA (Aj hS 35 _ rfl _ rfl (AI rfl) _ (by with_reducible assumption) ?_);refine AN (by (simp only [Act.put,List.setIfInBounds_toArray,List.set_cons_zero,List.set_cons_succ]);exact rfl) ?_));exact ⟨rfl,rfl⟩
   case hd=>rfl
   apply BR 5 Ar AA AA AA (fun _ _ _ _ h=>h)
   case hfr=>intro w;go_wp2_with fail;exact ⟨rfl,rfl⟩
   case hd=>rfl
   apply BR 6 Ar AA AA AA (fun _ _ _ _ h=>h)
   case hfr=>intro w;go_wp2_with fail;exact ⟨rfl,rfl⟩
   case hd=>rfl
   apply BR 7 Ar AA AA AA (fun _ _ _ _ h=>h)
   case hfr=>intro w;go_wp2_with fail;exact ⟨rfl,rfl⟩
   case hd=>rfl
   apply Cr 8 Ar AA AA AA (fun _ _ _ _ h=>h) [14,15,16,17,18,19,20] AA (hS.sub AV)
   case hfr=>intro w hS;go_wp2_with (first|(refine Bl AA (AZ hS 169 _ rfl _ _ rfl (AI rfl) _ AK _ (by rfl) ?_);refine AN (by (simp only [Act.put,List.setIfInBounds_toArray,List.set_cons_zero,List.set_cons_succ]);exact rfl) ?_)|(refine Bl AA (Ah hS 169 _ rfl _ _ rfl (AI rfl) _ _ _ _ _ AK _ (by with_reducible assumption) ?_);refine AN (by (simp only [Act.put,List.setIfInBounds_toArray,List.set_cons_zero,List.set_cons_succ]);exact rfl) ?_)|(refine Bl AA (Aj hS 169 _ rfl _ rfl (AI rfl) _ (by with_reducible assumption) ?_);refine AN (by (simp only [Act.put,List.setIfInBounds_toArray,List.set_cons_zero,List.set_cons_succ]);exact rfl) ?_));exact ⟨rfl,rfl⟩
   case hd=>rfl
   apply BR 9 Ar AA AA AA (fun _ _ _ _ h=>h)
   case hfr=>intro w;go_wp2_with fail;exact ⟨rfl,rfl⟩
   case hd=>rfl
   apply BR 10 Ar AA AA AA (fun _ _ _ _ h=>h)
   case hfr=>intro w;go_wp2_with fail;exact ⟨rfl,rfl⟩
   case hd=>rfl
   apply BR 11 Ar AA AA AA (fun _ _ _ _ h=>h)
   case hfr=>intro w;go_wp2_with fail;exact ⟨rfl,rfl⟩
   case hd=>rfl
   apply Cr 12 Ar AA AA AA (fun _ _ _ _ h=>h) [13,14,15,16,17,18,19,20] AA (hS.sub AV)
   case hfr=>intro w hS;go_wp2_with (first|(refine Bl AA (BZ hS 3 _ rfl _ _ rfl (AI rfl) _ _ AK (by omega) ?_);refine AN (by (simp only [Act.put,List.setIfInBounds_toArray,List.set_cons_zero,List.set_cons_succ]);exact rfl) ?_)|(refine Bl AA (AZ hS 3 _ rfl _ _ rfl (AI rfl) _ AK _ (by rfl) ?_);refine AN (by (simp only [Act.put,List.setIfInBounds_toArray,List.set_cons_zero,List.set_cons_succ]);exact rfl) ?_)|(refine Bl AA (Ah hS 3 _ rfl _ _ rfl (AI rfl) _ _ _ _ _ AK _ (by with_reducible assumption) ?_);refine AN (by (simp only [Act.put,List.setIfInBounds_toArray,List.set_cons_zero,List.set_cons_succ]);exact rfl) ?_)|(refine Bl AA (Aj hS 3 _ rfl _ rfl (AI rfl) _ (by with_reducible assumption) ?_);refine AN (by (simp only [Act.put,List.setIfInBounds_toArray,List.set_cons_zero,List.set_cons_succ]);exact rfl) ?_));exact ⟨rfl,rfl⟩
   case hd=>rfl
   apply BR 13 Ar AA AA AA (fun _ _ _ _ h=>h)
   case hfr=>intro w;go_wp2_with fail;exact ⟨rfl,rfl⟩
   case hd=>rfl
   apply BR 14 Ar AA AA AA (fun _ _ _ _ h=>h)
   case hfr=>intro w;go_wp2_with fail;exact ⟨rfl,rfl⟩
   case hd=>rfl
   apply BR 15 Ar AA AA AA (fun _ _ _ _ h=>h)
   case hfr=>intro w;go_wp2_with fail;exact ⟨rfl,rfl⟩
   case hd=>rfl
   refine At 16 ?_
   (refine AT (o:=⟨some 54,_,_,_,_,_⟩) hS 35 1 _ rfl 5 1 1 Hs _ _ (by (repeat (first|exact AW.nil|(apply AW.agg;(rfl);(rfl))|(apply AW.one;exact CC;(rfl);(rfl))))) (by rfl) (by decide) (by decide) ?_;clear hS;intro g54 w hS)
   refine ⟨fun _ _=>hS.sub AV,?_⟩
   refine JS (by (simp only [Act.put,List.setIfInBounds_toArray,List.set_cons_zero,List.set_cons_succ]);exact rfl) ?_
   refine At 17 ?_
   refine A7 hS _ _ 35 rfl _ 1 1 Hs _ _ _ _ rfl AK _ rfl 1 _ (hS.slBlk (n:=1) AK (by rfl) (by decide)) (by intro u hu;rw [List.mem_singleton] at hu;rw [hu];rfl) HP.out.1 HP.out.2 ?_;clear hS;intro ad2 c2 w hS
   refine ⟨fun h=>absurd (by decide) h,?_⟩
   refine JS (by (simp only [Act.put,List.setIfInBounds_toArray,List.set_cons_zero,List.set_cons_succ]);exact rfl) ?_
   apply BR 18 Ar AA AA AA (fun _ _ _ _ h=>h)
   case hfr=>intro w;go_wp2_with fail;exact ⟨rfl,rfl⟩
   case hd=>rfl
   apply BR 19 Ar AA AA AA (fun _ _ _ _ h=>h)
   case hfr=>intro w;go_wp2_with fail;exact ⟨rfl,rfl⟩
   case hd=>rfl
   refine At 20 ?_
   (refine Bg hS 35 _ _ rfl _ _ rfl (AI rfl) _ _ AK _ CC (by rfl) V3 rfl ?_;clear hS;intro w hS)
   refine ⟨fun h=>absurd (by decide) h,?_⟩
   refine AE AA ?_ _
   go_wp2_with (first
    | ((with_reducible refine Ak _ (.load 169 _) ?_);first|(refine Bl AA (AZ hS 169 _ rfl _ _ rfl (AI rfl) _ AK _ (by rfl) ?_);refine AN (by (simp only [Act.put,List.setIfInBounds_toArray,List.set_cons_zero,List.set_cons_succ]);exact rfl) ?_)|(refine Bl AA (Ah hS 169 _ rfl _ _ rfl (AI rfl) _ _ _ _ _ AK _ (by with_reducible assumption) ?_);refine AN (by (simp only [Act.put,List.setIfInBounds_toArray,List.set_cons_zero,List.set_cons_succ]);exact rfl) ?_)|(refine Bl AA (Aj hS 169 _ rfl _ rfl (AI rfl) _ (by with_reducible assumption) ?_);refine AN (by (simp only [Act.put,List.setIfInBounds_toArray,List.set_cons_zero,List.set_cons_succ]);exact rfl) ?_))|refine ZN ?_;clear hS;intro w hS|((with_reducible refine Ak _ (.load 3 _) ?_);first|(refine Bl AA (BZ hS 3 _ rfl _ _ rfl (AI rfl) _ _ AK (by omega) ?_);refine AN (by (simp only [Act.put,List.setIfInBounds_toArray,List.set_cons_zero,List.set_cons_succ]);exact rfl) ?_)|(refine Bl AA (AZ hS 3 _ rfl _ _ rfl (AI rfl) _ AK _ (by rfl) ?_);refine AN (by (simp only [Act.put,List.setIfInBounds_toArray,List.set_cons_zero,List.set_cons_succ]);exact rfl) ?_)|(refine Bl AA (Ah hS 3 _ rfl _ _ rfl (AI rfl) _ _ _ _ _ AK _ (by with_reducible assumption) ?_);refine AN (by (simp only [Act.put,List.setIfInBounds_toArray,List.set_cons_zero,List.set_cons_succ]);exact rfl) ?_)|(refine Bl AA (Aj hS 3 _ rfl _ rfl (AI rfl) _ (by with_reducible assumption) ?_);refine AN (by (simp only [Act.put,List.setIfInBounds_toArray,List.set_cons_zero,List.set_cons_succ]);exact rfl) ?_))|refine ZO ?_;clear hS;intro w hS|((with_reducible refine Ak _ (.load 35 _) ?_);first|(refine Bl AA (AZ hS 35 _ rfl _ _ rfl (AI rfl) _ AK _ (by rfl) ?_);refine AN (by (simp only [Act.put,List.setIfInBounds_toArray,List.set_cons_zero,List.set_cons_succ]);exact rfl) ?_)|(refine Bl AA (Ah hS 35 _ rfl _ _ rfl (AI rfl) _ _ _ _ _ AK _ (by with_reducible assumption) ?_);refine AN (by (simp only [Act.put,List.setIfInBounds_toArray,List.set_cons_zero,List.set_cons_succ]);exact rfl) ?_)|(refine Bl AA (Aj hS 35 _ rfl _ rfl (AI rfl) _ (by with_reducible assumption) ?_);refine AN (by (simp only [Act.put,List.setIfInBounds_toArray,List.set_cons_zero,List.set_cons_succ]);exact rfl) ?_))|((refine AP 54 ?_);first|(refine Bl AA (AT (o:=⟨some 54,_,_,_,_,_⟩) hS 35 1 _ rfl 5 1 1 Hs _ _ (by (repeat (first|exact AW.nil|(apply AW.agg;(rfl);(rfl))|(apply AW.one;exact CC;(rfl);(rfl))))) (by rfl) (by decide) (by decide) ?_);clear hS;intro g54 w hS;refine AN (by (simp only [Act.put,List.setIfInBounds_toArray,List.set_cons_zero,List.set_cons_succ]);exact rfl) ?_))|refine ZP ?_;clear hS;intro w hS|(first|refine Dk ?_|refine DD ?_|refine DC ?_|refine Ei ?_))
   go_roundg (gk-1)
   case measure=>have:=HR.out;omega
   case rel=>
    refine ⟨j+1,ad2,c2,by omega,by have:=HR.out;omega,?_⟩
    rw [show T-8*(j+1)=r by have:=HR.out;omega,←Nat.add_assoc q j 1,Rz,UZ,show (bv [FG (((bs++Ax width value).drop (8*(q+j))).take 8)]=[Value.int .u8 ((N:Int)/2^r%256)]) by rw [HBy.out];rfl]
    exact hS.sub AV
  have hlen:(bs++Ax width value).length=8*(q+j)+R:=by rw [List.length_append,As];omega
  have hd1:=AD (show (bs++Ax width value).length/8=q+j by omega)
  have hd2:=AD (show (bs++Ax width value).length%8=R by omega)
  have hval:Hid (FG ((bs++Ax width value).drop (8*(q+j)))=N%2^R):=by
   have h1:=Lg (bs.drop (8*q)++Ax width value) (8*j) R (by rw [HT.out];omega)
   rw [HT.out,HN.out,show T-8*j-R=0 by omega,Nat.pow_zero,Nat.div_one,List.take_of_length_le (by rw [List.length_drop,HT.out];omega)] at h1
   unfold Hid
   rw [Nat.mul_add,←List.drop_drop,List.drop_append_of_le_length (by omega)]
   exact h1
  have hNl:N<18446744073709551616:=by
   have h1:=H4 (bs.drop (8*q)++Ax width value)
   rw [HN.out,HT.out] at h1
   exact Nat.lt_of_lt_of_le h1 (OR T 64 (by omega))
  have HAND:=AD (Zw N R hNl (by omega))
  clear hlen
  go_wp2_with (first
   | ((with_reducible refine Ak _ (.load 169 _) ?_);first|(refine Bl AA (AZ hS 169 _ rfl _ _ rfl (AI rfl) _ AK _ (by rfl) ?_);refine AN (by (simp only [Act.put,List.setIfInBounds_toArray,List.set_cons_zero,List.set_cons_succ]);exact rfl) ?_)|(refine Bl AA (Ah hS 169 _ rfl _ _ rfl (AI rfl) _ _ _ _ _ AK _ (by with_reducible assumption) ?_);refine AN (by (simp only [Act.put,List.setIfInBounds_toArray,List.set_cons_zero,List.set_cons_succ]);exact rfl) ?_)|(refine Bl AA (Aj hS 169 _ rfl _ rfl (AI rfl) _ (by with_reducible assumption) ?_);refine AN (by (simp only [Act.put,List.setIfInBounds_toArray,List.set_cons_zero,List.set_cons_succ]);exact rfl) ?_))|refine ZN ?_;clear hS;intro w hS|((with_reducible refine Ak _ (.load 3 _) ?_);first|(refine Bl AA (BZ hS 3 _ rfl _ _ rfl (AI rfl) _ _ AK (by omega) ?_);refine AN (by (simp only [Act.put,List.setIfInBounds_toArray,List.set_cons_zero,List.set_cons_succ]);exact rfl) ?_)|(refine Bl AA (AZ hS 3 _ rfl _ _ rfl (AI rfl) _ AK _ (by rfl) ?_);refine AN (by (simp only [Act.put,List.setIfInBounds_toArray,List.set_cons_zero,List.set_cons_succ]);exact rfl) ?_)|(refine Bl AA (Ah hS 3 _ rfl _ _ rfl (AI rfl) _ _ _ _ _ AK _ (by with_reducible assumption) ?_);refine AN (by (simp only [Act.put,List.setIfInBounds_toArray,List.set_cons_zero,List.set_cons_succ]);exact rfl) ?_)|(refine Bl AA (Aj hS 3 _ rfl _ rfl (AI rfl) _ (by with_reducible assumption) ?_);refine AN (by (simp only [Act.put,List.setIfInBounds_toArray,List.set_cons_zero,List.set_cons_succ]);exact rfl) ?_))|refine ZO ?_;clear hS;intro w hS|((with_reducible refine Ak _ (.load 35 _) ?_);first|(refine Bl AA (AZ hS 35 _ rfl _ _ rfl (AI rfl) _ AK _ (by rfl) ?_);refine AN (by (simp only [Act.put,List.setIfInBounds_toArray,List.set_cons_zero,List.set_cons_succ]);exact rfl) ?_)|(refine Bl AA (Ah hS 35 _ rfl _ _ rfl (AI rfl) _ _ _ _ _ AK _ (by with_reducible assumption) ?_);refine AN (by (simp only [Act.put,List.setIfInBounds_toArray,List.set_cons_zero,List.set_cons_succ]);exact rfl) ?_)|(refine Bl AA (Aj hS 35 _ rfl _ rfl (AI rfl) _ (by with_reducible assumption) ?_);refine AN (by (simp only [Act.put,List.setIfInBounds_toArray,List.set_cons_zero,List.set_cons_succ]);exact rfl) ?_))|((refine AP 54 ?_);first|(refine Bl AA (AT (o:=⟨some 54,_,_,_,_,_⟩) hS 35 1 _ rfl 5 1 1 Hs _ _ (by (repeat (first|exact AW.nil|(apply AW.agg;(rfl);(rfl))|(apply AW.one;exact CC;(rfl);(rfl))))) (by rfl) (by decide) (by decide) ?_);clear hS;intro g54 w hS;refine AN (by (simp only [Act.put,List.setIfInBounds_toArray,List.set_cons_zero,List.set_cons_succ]);exact rfl) ?_))|refine ZP ?_;clear hS;intro w hS|(first|refine Dk ?_|refine DD ?_|refine DC ?_|refine Ei ?_))
  refine AR [13] (fun w=>St W w [blk g [.slice ad' (q+j) c', .int .u64 (N:Nat), .int .i64 (R:Nat)]]) AA ?_
  replace hS:=hS.drew
  apply BR 0 Ar AA AA AA (fun _ _ _ _ h=>h)
  case hfr=>intro w;go_wp2_with fail;exact ⟨rfl,rfl⟩
  case hd=>rfl
  apply BR 1 Ar AA AA AA (fun _ _ _ _ h=>h)
  case hfr=>intro w;go_wp2_with fail;exact ⟨rfl,rfl⟩
  case hd=>rfl
  apply BR 2 Ar AA AA AA (fun _ _ _ _ h=>h)
  case hfr=>intro w;go_wp2_with fail;exact ⟨rfl,rfl⟩
  case hd=>rfl
  apply Cr 3 Ar AA AA AA (fun _ _ _ _ h=>h) [10,11,12,13] AA (hS.sub AV)
  case hfr=>intro w hS;go_wp2_with (first|(refine Bl AA (AZ hS 169 _ rfl _ _ rfl (AI rfl) _ AK _ (by rfl) ?_);refine AN (by (simp only [Act.put,List.setIfInBounds_toArray,List.set_cons_zero,List.set_cons_succ]);exact rfl) ?_)|(refine Bl AA (Ah hS 169 _ rfl _ _ rfl (AI rfl) _ _ _ _ _ AK _ (by with_reducible assumption) ?_);refine AN (by (simp only [Act.put,List.setIfInBounds_toArray,List.set_cons_zero,List.set_cons_succ]);exact rfl) ?_)|(refine Bl AA (Aj hS 169 _ rfl _ rfl (AI rfl) _ (by with_reducible assumption) ?_);refine AN (by (simp only [Act.put,List.setIfInBounds_toArray,List.set_cons_zero,List.set_cons_succ]);exact rfl) ?_));exact ⟨rfl,rfl⟩
  case hd=>rfl
  apply BR 4 Ar AA AA AA (fun _ _ _ _ h=>h)
  case hfr=>intro w;go_wp2_with fail;exact ⟨rfl,rfl⟩
  case hd=>rfl
  apply BR 5 Ar AA AA AA (fun _ _ _ _ h=>h)
  case hfr=>intro w;go_wp2_with fail;exact ⟨rfl,rfl⟩
  case hd=>rfl
  apply BR 6 Ar AA AA AA (fun _ _ _ _ h=>h)
  case hfr=>intro w;go_wp2_with fail;exact ⟨rfl,rfl⟩
  case hd=>rfl
  apply Cr 7 Ar AA AA AA (fun _ _ _ _ h=>h) [8,9,10,11,12,13] AA (hS.sub AV)
  case hfr=>intro w hS;go_wp2_with (first|(refine Bl AA (BZ hS 3 _ rfl _ _ rfl (AI rfl) _ _ AK (by omega) ?_);refine AN (by (simp only [Act.put,List.setIfInBounds_toArray,List.set_cons_zero,List.set_cons_succ]);exact rfl) ?_)|(refine Bl AA (AZ hS 3 _ rfl _ _ rfl (AI rfl) _ AK _ (by rfl) ?_);refine AN (by (simp only [Act.put,List.setIfInBounds_toArray,List.set_cons_zero,List.set_cons_succ]);exact rfl) ?_)|(refine Bl AA (Ah hS 3 _ rfl _ _ rfl (AI rfl) _ _ _ _ _ AK _ (by with_reducible assumption) ?_);refine AN (by (simp only [Act.put,List.setIfInBounds_toArray,List.set_cons_zero,List.set_cons_succ]);exact rfl) ?_)|(refine Bl AA (Aj hS 3 _ rfl _ rfl (AI rfl) _ (by with_reducible assumption) ?_);refine AN (by (simp only [Act.put,List.setIfInBounds_toArray,List.set_cons_zero,List.set_cons_succ]);exact rfl) ?_));exact ⟨rfl,rfl⟩
  case hd=>rfl
  apply BR 8 Ar AA AA AA (fun _ _ _ _ h=>h)
  case hfr=>intro w;go_wp2_with fail;exact ⟨rfl,rfl⟩
  case hd=>rfl
  apply BR 9 Ar AA AA AA (fun _ _ _ _ h=>h)
  case hfr=>intro w;go_wp2_with fail;exact ⟨rfl,rfl⟩
  case hd=>rfl
  apply BR 10 Ar AA AA AA (fun _ _ _ _ h=>h)
  case hfr=>intro w;go_wp2_with fail;exact ⟨rfl,rfl⟩
  case hd=>rfl
  apply BR 11 Ar AA AA AA (fun _ _ _ _ h=>h)
  case hfr=>intro w;go_wp2_with fail;exact ⟨rfl,rfl⟩
  case hd=>rfl
  apply BR 12 Ar AA AA AA (fun _ _ _ _ h=>h)
  case hfr=>intro w;go_wp2_with fail;exact ⟨rfl,rfl⟩
  case hd=>rfl
  refine At 13 ?_
  (refine Bg hS 169 _ _ rfl _ _ rfl (AI rfl) _ _ AK _ CC (by rfl) V3 rfl ?_;clear hS;intro w hS)
  refine ⟨fun h=>absurd (by decide) h,?_⟩
  refine AE AA ?_ _
  go_end0
  refine ⟨rfl,St.close (ad',c') ?_⟩
  simp only [List.cons_append,List.nil_append]
  rw [HAND.out] at hS
  rw [hd1.out,hd2.out,hval.out]
  exact hS.sub AV
end Go.Proofs.YtohacgmhmbijmaaGreatDoor
/- And, or, exclusive or of ints that are not negative. -/
namespace Go
open Go.RowKit
theorem toNat_i64(a:Nat)(ha:a<9223372036854775808):(BitVec.ofInt 64 (a:Int)).toNat=a:=by
  rw [BitVec.ofInt_natCast,BitVec.toNat_ofNat];exact Nat.mod_eq_of_lt (by omega)
theorem wrap_i64_nat(x:Nat)(h:x<9223372036854775808):IntKind.i64.wrap (x:Int)=(x:Int):=by
  simp [IntKind.wrap,IntKind.signed,IntKind.bits];omega
theorem bits_and_i64_nat(a b:Nat)(ha:a<9223372036854775808)(hb:b<9223372036854775808):bits .and .i64 (a:Int) (b:Int)=((a&&&b:Nat):Int):=by
  show IntKind.i64.wrap ((BitVec.ofInt 64 (a:Int)&&&BitVec.ofInt 64 (b:Int)).toNat:Int)=_
  rw [BitVec.toNat_and,toNat_i64 a ha,toNat_i64 b hb]
  exact wrap_i64_nat _ (Nat.lt_of_lt_of_le (Nat.and_lt_two_pow (n:=63) _ (by omega)) (by decide))
theorem bits_or_i64_nat(a b:Nat)(ha:a<9223372036854775808)(hb:b<9223372036854775808):bits .or .i64 (a:Int) (b:Int)=((a|||b:Nat):Int):=by
  show IntKind.i64.wrap ((BitVec.ofInt 64 (a:Int)|||BitVec.ofInt 64 (b:Int)).toNat:Int)=_
  rw [BitVec.toNat_or,toNat_i64 a ha,toNat_i64 b hb]
  exact wrap_i64_nat _ (Nat.lt_of_lt_of_le (Nat.or_lt_two_pow (n:=63) (by omega) (by omega)) (by decide))
/-- Two to a small power, reckoned as ints are. -/
theorem pow_i64(k:Nat)(h:k<63):wrap64 ((2:Int)^k)=((2^k:Nat):Int):=by
  have h1:2^k≤2^62:=Nat.pow_le_pow_right (by omega) (by omega)
  rw [show (2:Int)^k=((2^k:Nat):Int) by push_cast;rfl]
  generalize 2^k=x at h1
  unfold wrap64
  omega
theorem mask_i64(k:Nat)(h:k<63):wrap64 (wrap64 ((2:Int)^k)-1)=((2^k-1:Nat):Int):=by
  have h1:2^k≤2^62:=Nat.pow_le_pow_right (by omega) (by omega)
  have h0:=Nat.two_pow_pos k
  rw [pow_i64 k h]
  generalize 2^k=x at h1 h0
  unfold wrap64
  omega
end Go
namespace Go.Proofs.YtohacgmhmbijmaaGreatDoor
attribute [local irreducible] Region.wanted
open Go.RowKit
set_option linter.unusedVariables false
set_option maxRecDepth 100000
set_option maxHeartbeats 8000000
theorem Z1(a0:Option Addr)(n0 c0:Nat)(w:World):(Instr.build 184 #[(0, .slice a0 n0 c0)]).run Tryz.prog w= .ok (.agg #[.slice a0 n0 c0, .int .i64 0]) w:=by kernel_rfl
def rd(g:Nat)(ad:Option Addr)(n c i:Nat):Aq:=blk g [.slice ad n c, .int .i64 (i:Nat)]
theorem Ml(w0:World)(ad:Option Addr)(n c:Nat):Calls Tryz.prog 87 #[.slice ad n c] w0 fun e w=>∃g,e= .returned (.pointer (some ⟨g,0,none⟩))∧St w0 w [rd g ad n c 0]:=by
 have hS:=St.start w0
 go_enter Tryz.func87,Tryz.ntmps87
 repeat' (first
  | refine X0 ?_|(refine AP 4 ?_);(refine Ap AA (V.build (vs:=[(0,_)]) rfl (Z1 _ _ _)) ?_;go_step)|(refine AP 5 ?_);(refine Ad ?_;apply CL (o:=⟨some 5,_,_,_,_,_⟩) hS 184 _ rfl _ rfl;clear hS;intro g5 w hS;refine AC ?_;go_step)|refine AH ?_;go_step|fail)
 go_ret
 exact ⟨_,rfl,hS⟩
theorem LW(w0:World)(g n c at_:Nat)(ad:Option Addr)(c0:w0.cell? ⟨g,0,none⟩=some (.slice ad n c))(c1:w0.cell? ⟨g,1,none⟩=some (.int .i64 (at_:Nat)))(hn:n≤1000000000000000000)(ha:at_≤8*n):
 Calls Tryz.prog 89 #[.pointer (some ⟨g,0,none⟩)] w0 fun e w=>e= .returned (.int .i64 ((8*n-at_:Nat):Int))∧Af w0 w:=by
 have hS:=St.start w0
 go_enter Tryz.func89,Tryz.ntmps89
 repeat' (first
  | refine X8 ?_|refine AH ?_;go_step|fail)
 refine AR [] (fun w=>St w0 w []) AA ?_
 replace hS:=hS.drew
 focus
  refine Ab 0 ?_
  refine BX 1 BU (V.nilCheck rfl) ?_;go_step
  refine BX 2 BU (V.fieldAddr TE rfl BK) ?_;go_step
  apply Cr 3 Ar AA AA AA Cp [4,5,10,11] AA (hS.sub AV)
  case hfr=>intro w hS;((refine Ad ?_;apply Aj hS 35 _ rfl _ rfl (AI rfl) _;(case hc=>with_reducible assumption);refine AC ?_;go_step));refine wpList_nil ?_;exact ⟨rfl,rfl⟩
  case hd=>rfl
  refine BX 4 BU (V.len Tryz.underlying35 rfl) ?_;go_step
  refine bw 5 ?_
  refine Ab 6 ?_
  refine BX 7 BU (V.nilCheck rfl) ?_;go_step
  refine BX 8 BU (V.fieldAddr Kh rfl BK) ?_;go_step
  refine eu 9 [10,11] ?_
  (refine Bt 10 (.int _ (((8*n-at_:Nat):Int))) Ar AA AA AA Cp (V.as (V.subI rfl rfl (by omega)) (by omega)) AA ?_)
  go_step
  refine Ab 11 ?_
  refine AE AA ?_ _
 repeat' (first
  | refine AH ?_;go_step|fail)
 go_ret
 exact ⟨rfl,hS.1⟩
def GC(l:List Nat)(i:Nat):Nat:=l.getD (i/8) 0/2^(7-i%8)%2
theorem SL(l:List Nat)(i:Nat)(h:i<8*l.length):(BM l)[i]? =some (GC l i==1):=SM l i h
def BE(l:List Nat)(i m:Nat):Nat:=FG (((BM l).drop i).take m)
theorem H3(l:List Nat)(i m:Nat)(h:i+m<8*l.length):BE l i (m+1)=2*BE l i m+GC l (i+m):=by
 unfold BE
 rw [List.take_add_one,List.getElem?_drop,SL _ _ h]
 simp only [Option.toList_some]
 rw [Il]
 have:GC l (i+m)<2:=Nat.mod_lt _ (by omega)
 congr 1
 rcases (show GC l (i+m)=0∨GC l (i+m)=1 by omega) with h|h<;>rw [h]<;>rfl
theorem Ld(l:List Nat)(i m:Nat):BE l i m<2^m:=by
 unfold BE
 refine Nat.lt_of_lt_of_le (H4 _) (Nat.pow_le_pow_right (by omega) ?_)
 simp;omega
theorem Xc(N b:Nat)(hN:N<4611686018427387904)(hb:b<2):bits .or .i64 (IntKind.i64.wrap ((N:Int)*2^1)) (b:Int)=((2*N+b:Nat):Int):=by
 have e1:IntKind.i64.wrap ((N:Int)*2^1)=((2*N:Nat):Int):=by rw [show ((N:Int)*2^1)=((2*N:Nat):Int) by push_cast;omega];exact wrap_i64_nat _ (by omega)
 rw [e1,bits_or_i64_nat _ _ (by omega) (by omega)]
 congr 1
 rw [show 2*N=2^1*N by omega]
 exact (Nat.two_pow_add_eq_or_of_lt (i:=1) (by omega) N).symm
theorem TT(N b:Nat)(hN:N<4611686018427387904)(hb:b<2):bits .or .i64 ((N:Int)*2^1) (b:Int)=((2*N+b:Nat):Int):=by
 have:=Xc N b hN hb
 rwa [IntWalk.i64_in _ (by omega)] at this
theorem Zx:∀b:Nat,b<256→bits .and .u8 (b:Int) 1=((b%2:Nat):Int):=by decide+kernel
theorem Zz(l:List Nat)(i:Nat)(hl:∀x∈l,x<256):bits .and .u8 (((l.getD (i/8) 0:Nat):Int)/2^(7-i%8)) 1=((GC l i:Nat):Int):=by
 have h1:l.getD (i/8) 0<256:=by
  by_cases h:i/8<l.length
  ·have:=hl _ (List.getElem_mem h);simpa [List.getD,h] using this
  simp [List.getD,List.getElem?_eq_none (show l.length≤i/8 by omega)]
 have h2:l.getD (i/8) 0/2^(7-i%8)<256:=Nat.lt_of_le_of_lt (Nat.div_le_self _ _) h1
 have e:((l.getD (i/8) 0:Nat):Int)/2^(7-i%8)=((l.getD (i/8) 0/2^(7-i%8):Nat):Int):=by push_cast;rfl
 rw [e,Zx _ h2]
 rfl
theorem UY(a0:Option Nat)(a1:Option Nat)(w:World):(Instr.build 202 #[(0, .map a0),(1, .map a1)]).run Tryz.prog w= .ok (.agg #[.map a0, .map a1]) w:=by kernel_rfl
theorem JQ(m0:Int)(m1:Int)(w:World):(Instr.build 206 #[(0, .int .i64 m0),(1, .int .i64 m1)]).run Tryz.prog w= .ok (.agg #[.int .i64 m0, .int .i64 m1]) w:=by kernel_rfl
def wv(s:Int)(y:Nat×Nat):Value:= .agg #[.int .i64 s, .int .i64 (y.1:Int), .int .i64 (y.2:Int)]
def H9(L:List (Int×Nat×Nat))(s:Int):Option Value:=(symW L s).map (wv s)
def Hp(L:List (Int×Nat×Nat))(p:Int×Int):Option Value:=(codW L p).map (Value.int .i64)
theorem Va(L:List (Int×Nat×Nat))(s:Int)(l c:Nat):(fun j=>if j=s then some (Value.agg ([s,(l:Int),(c:Int)].map (Value.int .i64)).toArray) else H9 L j)=H9 (L++[(s,l,c)]):=by
 funext j
 unfold H9
 rw [Vc]
 by_cases h:j=s
 ·rw [if_pos h,if_pos h,h];rfl
 rw [if_neg h,if_neg h]
theorem Uj(L:List (Int×Nat×Nat))(s:Int)(l c:Nat):(fun j=>if j=((l:Int),(c:Int)) then some (Value.int .i64 s) else Hp L j)=Hp (L++[(s,l,c)]):=by
 funext j
 unfold Hp
 rw [Ul]
 by_cases h:j=((l:Int),(c:Int))
 ·rw [if_pos h,if_pos h];rfl
 rw [if_neg h,if_neg h]
def LC(g:Nat)(L:List (Int×Nat×Nat)):Aq:=df fun x:Nat×Nat=>[blk g [.map (some x.1), .map (some x.2)],mp ik x.1 (H9 L),mp pk x.2 (Hp L)]
theorem Ih(w0:World)(C S:List Int)(ad:Option Addr)(n c:Nat)(hC:Ac C 16)(hv:Sl w0 1 (.slice ad n c) n (S.map (Value.int .i64)))(hn:n≤9223372036854775807)(hok:A4 C S=0):
 Calls Tryz.prog 118 #[tv C (.slice ad n c)] w0 fun e w=>∃g,e= .returned (.pointer (some ⟨g,0,none⟩))∧St w0 w [LC g (Bw C S)]:=by
 have hSl:S.length=n:=by have:=hv.1;simpa using this
 have hn256:n≤256:=by have:=(B8 hok).2.2.1;omega
 obtain ⟨L,hL⟩:∃L,Bw C S=L:=⟨_,rfl⟩
 have HL:=AD hL
 have HLl:Hid (L.length=n):=AD (by rw [←hL,Oz _ _ (B8 hok).2.1,hSl])
 have HOk:=AD hok
 clear hSl hL hok
 have hS:=St.start w0
 go_enter Tryz.func118,Tryz.ntmps118
 repeat' (first
  | (refine Al 134 ?_);refine Am AA Tryz.call134 (Qr _ C S ad n c hC (hv.ext hS.1) hn HOk.out) ?_;rintro e w ⟨a2,c2,rfl,hS2⟩;rw [HL.out] at hS2;replace hS:=hS.call1 hS2;clear hS2;refine AX ?_;go_step|refine X0 ?_|(refine AP 8 ?_);(refine Ap AA (V.build (vs:=[(0,_),(1,_)]) rfl (UY _ _)) ?_;go_step)|(with_reducible refine Ak _ (.call ⟨.builtin .len,_,_⟩) ?_);(refine Ap AA (V.len Tryz.underlying204 rfl) ?_;go_step)|refine Zl 1 ?_;clear hS;intro g1 w hS|(refine AP 6 ?_);(refine Ad ?_;apply Fr (o:=⟨some 6,_,_,_,_,_⟩) ik hS 199 rfl;clear hS;intro g6 w hS;refine AC ?_;go_step)|(refine AP 7 ?_);(refine Ad ?_;apply Fr (o:=⟨some 7,_,_,_,_,_⟩) pk hS 200 rfl;clear hS;intro g7 w hS;refine AC ?_;go_step)|(refine AP 9 ?_);(refine Ad ?_;apply CL (o:=⟨some 9,_,_,_,_,_⟩) hS 202 _ rfl _ rfl;clear hS;intro g9 w hS;refine AC ?_;go_step)|refine KZ ?_|refine AH ?_;go_step|fail)
 go_loopg [13] n (fun gk kv w=>∃(i:Nat),gk+i=n∧kv= .int .i64 i∧St w0 w [own 197 3 a2 n c2 ((T5 L).map (Value.int .i64)),blk g9 [.map (some g6), .map (some g7)],mp ik g6 (H9 (L.take i)),mp pk g7 (Hp (L.take i))])
 case atStart=>exact ⟨0,rfl,rfl,(by rw [show H9 (L.take 0)=fun _=>none from rfl,show Hp (L.take 0)=fun _=>none from rfl];exact hS.sub AV)⟩
 case round=>
  clear hS
  obtain ⟨i,hi,rfl,hS⟩:=hrel
  by_cases hlt:i<n
  ·obtain ⟨b2,rfl⟩:=Bq hS AK (by omega)
   obtain ⟨⟨s,l,k⟩,hx⟩:∃x,L[i]? =some x:=⟨_,List.getElem?_eq_getElem (by rw [HLl.out];exact hlt)⟩
   have hseg:=T6 L i _ hx
   dsimp only at hseg
   have ht:L.take (i+1)=L.take i++[(s,l,k)]:=by rw [List.take_add_one,hx];rfl
   have H1:=AD (Va (L.take i) s l k)
   have H2:=AD (Uj (L.take i) s l k)
   rw [←ht] at H1 H2
   clear hx ht
   repeat' (first
    | refine X2 ?_|(refine AP 15 ?_);(refine Ap AA (V.indexSl Tryz.underlying204 dx rfl rfl BJ (by omega) rfl BK) ?_;go_step)|(with_reducible refine Ak _ (.load 197 _) ?_);(refine Ad ?_;apply IG hS 197 _ rfl _ _ rfl 3 (AO rfl) _ _ _ _ _;(case hp=>exact AK);(case hi=>omega);(case hl'=>with_reducible assumption);refine AC ?_;go_step)|refine cW 5 ?_;clear hS;intro g5 w hS|refine ce ?_;clear hS;intro w hS|refine AH ?_;go_step|fail)
   refine AR [7] (fun w=>St w0 w [blk g5 ([s,(l:Int),(k:Int)].map (Value.int .i64)),blk g9 [.map (some g6), .map (some g7)]]) AA ?_
   replace hS:=hS.drew
   focus
    refine Ab 0 ?_
    refine BX 1 BU (V.nilCheck rfl) ?_;go_step
    refine BX 2 BU (V.fieldAddr OB rfl BK) ?_;go_step
    apply Cr 3 Ar AA AA AA Cp [7] AA (hS.sub AV)
    case hfr=>intro w hS;((refine Ad ?_;apply AZ hS 199 _ rfl _ _ rfl (AI rfl) _;(case hp=>exact AK);(case hc=>rfl);refine AC ?_;go_step));refine wpList_nil ?_;exact ⟨rfl,rfl⟩
    case hd=>rfl
    refine BX 4 BU (V.fieldAddr TF rfl BK) ?_;go_step
    refine Y5 5 [7] ?_
    apply Cr 6 Ar AA AA AA Cp [7] AA (hS.sub AV)
    case hfr=>intro w hS;((refine Ad ?_;apply D7 hS 197 _ rfl _ rfl 3 (AO rfl) _;(case hp=>exact AK);(case hn=>rfl);refine AC ?_;go_step));refine wpList_nil ?_;exact ⟨rfl,rfl⟩
    case hd=>rfl
    refine At 7 ?_
    (refine EK (enc:=ik) hS 199 _ _ _ rfl _ rfl _ rfl Tryz.underlying199 (CR Tryz.underlying3) _ AK _ (by (first|exact DU.int rfl|exact DU.bool rfl|exact DU.slice rfl|exact DU.pointer rfl|exact DU.string rfl|exact DU.map rfl|exact DU.func rfl|exact DU.agg rfl)) rfl ?_;clear hS;intro w hS)
    refine ⟨fun h=>absurd (by decide) h,?_⟩
    refine AE AA ?_ _
   all_goals
    repeat' (first
     | refine AH ?_;go_step|fail)
    refine AR [11] (fun w=>St w0 w [blk g5 ([s,(l:Int),(k:Int)].map (Value.int .i64)),blk g9 [.map (some g6), .map (some g7)]]) AA ?_
    replace hS:=hS.drew
    focus
     refine Ab 0 ?_
     refine BX 1 BU (V.nilCheck rfl) ?_;go_step
     refine BX 2 BU (V.fieldAddr OC rfl BK) ?_;go_step
     apply Cr 3 Ar AA AA AA Cp [11] AA (hS.sub AV)
     case hfr=>intro w hS;((refine Ad ?_;apply AZ hS 200 _ rfl _ _ rfl (AI rfl) _;(case hp=>exact AK);(case hc=>rfl);refine AC ?_;go_step));refine wpList_nil ?_;exact ⟨rfl,rfl⟩
     case hd=>rfl
     refine BX 4 BU (V.fieldAddr TG rfl BK) ?_;go_step
     refine Y5 5 [8,11] ?_
     refine BX 6 BU (V.fieldAddr TH rfl BK) ?_;go_step
     refine Y5 7 [8,11] ?_
     refine BX 8 BU (V.build (vs:=[(0,_),(1,_)]) rfl (JQ _ _)) ?_;go_step
     refine BX 9 BU (V.fieldAddr TF rfl BK) ?_;go_step
     refine Y5 10 [11] ?_
     refine At 11 ?_
     (refine EK (enc:=pk) hS 200 _ _ _ rfl _ rfl (_,_) rfl Tryz.underlying200 (GI Tryz.underlying206 Tryz.underlying3 EA) _ AK _ (by (first|exact DU.int rfl|exact DU.bool rfl|exact DU.slice rfl|exact DU.pointer rfl|exact DU.string rfl|exact DU.map rfl|exact DU.func rfl|exact DU.agg rfl)) rfl ?_;clear hS;intro w hS)
     refine ⟨fun h=>absurd (by decide) h,?_⟩
     refine AE AA ?_ _
    all_goals
     repeat' (first
      | refine X1 ?_|refine X7 ?_|refine AH ?_;go_step|fail)
     go_roundg (gk-1)
     case measure=>omega
     case rel=>
      refine ⟨i+1,by omega,by go_num,?_⟩
      rw [←H1.out,←H2.out]
      exact hS.sub AV
  obtain rfl:i=n:=by omega
  rw [show L.take i=L by rw [←HLl.out];exact List.take_length] at hS
  repeat' (first
   | refine X0 ?_|refine X2 ?_|refine AH ?_;go_step|fail)
  go_ret
  refine ⟨g9,rfl,St.close (g6,g7) ?_⟩
  rw [HL.out]
  exact hS.sub AV
def wb(L:List (Int×Nat×Nat))(s:Int):List Bool:=match symW L s with
 | some y=>Ax y.1 y.2
 | none=>[]
theorem LD(W w0:World)(rs rs' rs2:List Aq)(g g2:Nat)(L:List (Int×Nat×Nat))(bs:List Bool)(s:Int)(hL:Cs L)(hS:St W w0 rs)(hp:AU (LC g L) rs rs')(hp2:AU (wr g2 bs) rs' rs2)(hb:bs.length≤1000000000000):
 Calls Tryz.prog 110 #[.pointer (some ⟨g,0,none⟩), .pointer (some ⟨g2,0,none⟩), .int .i64 s] w0 fun e w=>e= .returned (.bool (symW L s).isSome)∧St W w (LC g L::wr g2 (bs++wb L s)::rs2):=by
 obtain ⟨⟨m1,m2⟩,hS⟩:=(hS.pull hp).open
 dsimp only [List.cons_append,List.nil_append] at hS
 have HG:=AD hL
 clear hL
 have hp3:AU (wr g2 bs) (blk g [.map (some m1), .map (some m2)]::mp ik m1 (H9 L)::mp pk m2 (Hp L)::rs') (blk g [.map (some m1), .map (some m2)]::mp ik m1 (H9 L)::mp pk m2 (Hp L)::rs2):= .tail (.tail (.tail hp2))
 cases hs:symW L s with
 | none=>
   have hf:H9 L s=none:=by unfold H9;rw [hs];rfl
   have HB:=AD (show wb L s=[] by unfold wb;rw [hs])
   clear hs
   go_enter Tryz.func110,Tryz.ntmps110
   repeat' (first
    | refine X0 ?_|refine UR ?_|(with_reducible refine Ak _ (.fieldAddr 202 _ 0) ?_);(refine Ap AA (V.fieldAddr OB rfl BK) ?_;go_step)|refine X4 ?_|refine fR ?_|(refine AP 15 ?_);(refine Ad ?_;apply KF (enc:=ik) hS 199 _ _ rfl _ rfl _ rfl Tryz.underlying199 (CR Tryz.underlying3) (.agg #[.int .i64 0, .int .i64 0, .int .i64 0]) (fun w=>Tryz.zeroValue197 w) _;(case hp=>exact AK);(case hf=>with_reducible assumption);refine AC ?_;go_step)|refine cW 7 ?_;clear hS;intro g7 w hS|refine ce ?_;clear hS;intro w hS|refine AH ?_;go_step|fail)
   go_ret
   refine ⟨rfl,St.close (m1,m2) ?_⟩
   rw [HB.out,List.append_nil]
   exact (hS.pull (.tail hp3)).sub AV
 | some y=>
   obtain ⟨l,k⟩:=y
   have hm:=FU hs
   obtain ⟨g1,g2',g3⟩:=HG.out.long _ hm
   dsimp only at g1 g2' g3
   have hf:H9 L s=some (.agg #[.int .i64 s, .int .i64 (l:Int), .int .i64 (k:Int)]):=by unfold H9;rw [hs];rfl
   have HB:=AD (show wb L s=Ax l k by unfold wb;rw [hs])
   have HK:=AD (show k<2^l by omega)
   clear hs hm g3
   go_enter Tryz.func110,Tryz.ntmps110
   repeat' (first
    | (refine Al 111 ?_);refine Am AA Tryz.call111 (OU W _ _ _ g2 bs l k hS (.tail hp3) (by omega) HK.out (by omega)) ?_;clear hS;rintro e w ⟨rfl,hS⟩;refine AX ?_;go_step|refine X0 ?_|refine UR ?_|(with_reducible refine Ak _ (.fieldAddr 202 _ 0) ?_);(refine Ap AA (V.fieldAddr OB rfl BK) ?_;go_step)|refine X4 ?_|(with_reducible refine Ak _ (.fieldAddr 197 _ 1) ?_);(refine Ap AA (V.fieldAddr TG rfl BK) ?_;go_step)|(with_reducible refine Ak _ (.fieldAddr 197 _ 2) ?_);(refine Ap AA (V.fieldAddr TH rfl BK) ?_;go_step)|refine fR ?_|(refine AP 15 ?_);(refine Ad ?_;apply KG (enc:=ik) hS 199 _ _ rfl _ rfl _ rfl Tryz.underlying199 (CR Tryz.underlying3) (.agg #[.int .i64 0, .int .i64 0, .int .i64 0]) (fun w=>Tryz.zeroValue197 w) _;(case hp=>exact AK);(case hf=>with_reducible assumption);refine AC ?_;go_step)|refine cW 7 ?_;clear hS;intro g7 w hS|refine ce ?_;clear hS;intro w hS|refine ED ?_|refine AH ?_;go_step|fail)
   go_ret
   refine ⟨rfl,St.close (m1,m2) ?_⟩
   rw [HB.out]
   exact hS.sub AV
def G0(L:List (Int×Nat×Nat))(l:List Nat)(i:Nat):Nat→Nat→Int×Int×Nat
 | 0,d=>(0,4,i+d)
 | f+1,d=>if 8*l.length<i+(d+1) then (0,3,i+d) else match codW L (((d+1:Nat):Int),(BE l i (d+1):Int)) with
   | some s=>(s,0,i+(d+1))
   | none=>G0 L l i f (d+1)
theorem VI(l:List Nat)(i d:Nat)(h:i+d<8*l.length):BE l i (d+1)=2*BE l i d+BE l (i+d) 1:=by
 rw [H3 l i d h]
 congr 1
 have:=H3 l (i+d) 0 (by omega)
 rw [Nat.zero_add] at this
 rw [this,show BE l (i+d) 0=0 by unfold BE;rw [List.take_zero];rfl];simp
theorem AB.prt{P:Program}{W w:World}{rs rs':List Aq}{tmps:Array Value}{p g n:Nat}{ty:TypeId}{ps:List Ae}(hS:St W w rs)(hp:tmps.getD p undef= .pointer (some ⟨g,0,none⟩))(h1:E7 P ty n)(pl:AU (Go.Proofs.YtohacgmhmbijmaaGreatDoor.prt g ps) rs rs')(hn:Bi ps n ps):AB P tmps w (.cell p ty) (.agg (AF ps).toArray):=
 AB.blk hS hp h1 pl hn.take.2
section
variable{P:Program}{Q:Exit→Act→World→Prop}{a:Act}{W w:World}{c:Code}
theorem Yc{F:Nat→Nat→Nat→Act}(rs:Nat→Nat→Nat→List Aq)(h:c.wp P (fun e a w=>e= .normal∧∃g g' g2,a=F g g' g2∧St W w (rs g g' g2)) a w)(k:∀g g' g2 w,St W w (rs g g' g2)→Q .normal (F g g' g2) w):c.wp P Q a w:=
 Code.wp_mono (fun e a w ⟨he,g,g',g2,ha,hS⟩=>by subst he;subst ha;exact k g g' g2 w hS) h
end
theorem UX(a0:Option Addr)(a1:Option Addr)(w:World):(Instr.build 181 #[(0, .pointer a0),(1, .pointer a1)]).run Tryz.prog w= .ok (.agg #[.pointer a0, .pointer a1]) w:=by kernel_rfl
theorem WW (w:World):(Instr.build 171 #[]).run Tryz.prog w= .ok (.agg #[.slice none 0 0, .int .u64 0, .int .i64 0]) w:=by kernel_rfl
theorem UV(a0:Option Addr)(a1:Option Addr)(w:World):(Instr.build 140 #[(0, .pointer a0),(1, .pointer a1)]).run Tryz.prog w= .ok (.agg #[.pointer a0, .pointer a1]) w:=by kernel_rfl
theorem WV (w:World):(Instr.build 155 #[]).run Tryz.prog w= .ok (.agg #[.int .i64 0, .int .i64 0, .int .i64 0]) w:=by kernel_rfl
theorem UW(m0:Int)(m1:Int)(w:World):(Instr.build 155 #[(0, .int .i64 m0),(1, .int .i64 m1)]).run Tryz.prog w= .ok (.agg #[.int .i64 m0, .int .i64 m1, .int .i64 0]) w:=by kernel_rfl
def b6(g:Nat)(L1 L2:List (Int×Nat×Nat)):Aq:=df fun x:Nat×Nat=>[blk g [.pointer (some ⟨x.1,0,none⟩), .pointer (some ⟨x.2,0,none⟩)],LC x.1 L1,LC x.2 L2]
theorem Dw(C:List Int)(v:Value)(h:Ac C 16):(AF [.ints C, .val v]).length=17:=by
 have:=h.out
 simp [AF,Ae.cells,this]
theorem gC(C1 C2:List Int)(v1 v2:Value):AF [.ints C1, .val v1]++(AF [.ints C2, .val v2]++[])=AF [.ints C1, .val v1, .ints C2, .val v2]:=by
 simp [AF,Ae.cells]
theorem I1{W w:World}{rs:List Aq}{g:Nat}{C1 C2:List Int}{v1 v2:Value}(hS:St W w (blk g (AF [.ints C1, .val v1]++(AF [.ints C2, .val v2]++[]))::rs)):St W w (prt g [.ints C1, .val v1, .ints C2, .val v2]::rs):=by
 rw [gC] at hS;exact hS
def EE(C1 S1 C2 S2:List Int):Int:=if A4 C1 S1=0 then A4 C2 S2 else A4 C1 S1
theorem P6(w0:World)(C1 C2 S1 S2:List Int)(a1 a2:Option Addr)(n1 n2 k1 k2:Nat)(hC1:Ac C1 16)(hC2:Ac C2 16)(hs1:Sl w0 1 (.slice a1 n1 k1) n1 (S1.map (Value.int .i64)))(hs2:Sl w0 1 (.slice a2 n2 k2) n2 (S2.map (Value.int .i64)))(hn1:n1≤9223372036854775807)(hn2:n2≤9223372036854775807)(E:Int)(hE:EE C1 S1 C2 S2=E)(h0:E≠0):
 Calls Tryz.prog 85 #[.agg (AF [.ints C1, .val (.slice a1 n1 k1), .ints C2, .val (.slice a2 n2 k2)]).toArray] w0 fun e w=>e= .returned (.tuple #[.pointer none, .int .i64 E])∧Af w0 w:=by
 have hS:=St.start w0
 have hL1:=AD (Dw C1 (.slice a1 n1 k1) hC1)
 have hL2:=AD (Dw C2 (.slice a2 n2 k2) hC2)
 obtain ⟨E1,hE1⟩:∃x,A4 C1 S1=x:=⟨_,rfl⟩
 obtain ⟨E2,hE2⟩:∃x,A4 C2 S2=x:=⟨_,rfl⟩
 have HE1:=AD hE1
 have HE2:=AD hE2
 have he:(if E1=0 then E2 else E1)=E:=by rw [←hE1,←hE2];exact hE
 have HE:=AD he
 clear hE1 hE2 hE he
 go_enter Tryz.func85,Tryz.ntmps85
 repeat' (first
  | (refine AP 11 ?_);refine Ad ?_;refine AT (o:=⟨some 11,_,_,_,_,_⟩) hS 115 2 _ rfl 32 17 152 M9 _ _ (AW.agg rfl hL1.out (AW.agg rfl hL2.out AW.nil)) rfl (by decide) (by decide) ?_;clear hS;intro g11 w hS;replace hS:=I1 hS;refine AC ?_;go_step|refine X0 ?_|refine Zp ?_|refine Zq ?_|refine ek ?_|refine PE 1 ?_;clear hS;intro g1 w hS|refine KZ ?_|refine AH ?_;go_step|fail)
 clear hL1 hL2
 go_loopg [13] 2 (fun gk kv w=>∃k:Nat,gk+k=2∧kv= .int .i64 k∧(1≤k→E1=0)∧(2≤k→E2=0)∧St w0 w [prt g1 [.ints C1, .val (.slice a1 n1 k1), .ints C2, .val (.slice a2 n2 k2)],prt g11 [.ints C1, .val (.slice a1 n1 k1), .ints C2, .val (.slice a2 n2 k2)]])
 case atStart=>exact ⟨0,rfl,rfl,fun h=>absurd h (by omega),fun h=>absurd h (by omega),hS.sub AV⟩
 case round=>
  clear hS
  obtain ⟨k,hk,rfl,HA,HB,hS⟩:=hrel
  by_cases hlt:k<2
  ·obtain rfl|rfl:k=0∨k=1:=by omega
   ·repeat' (first
     | (refine Al 73 ?_);refine Am AA Tryz.call73 (Ca _ C1 S1 a1 n1 k1 hC1 (hs1.ext hS.1) hn1) ?_;rintro e w ⟨rfl,hE2⟩;rw [HE1.out];replace hS:=hS.ext hE2;clear hE2;refine AX ?_;go_step|refine X0 ?_|refine X2 ?_|refine WP 15 ?_|refine X3 ?_|refine X7 ?_|refine KZ ?_|refine RC 5 ?_;clear hS;intro g5 w hS|refine RE ?_;clear hS;intro w hS|refine AH ?_;go_step|fail)
    ·refine AM (xs:=[_,_]) rfl (.cons (AB.tmp rfl) (.cons (AB.tmp rfl) (.nil))) (by simp) rfl ?_
     exact ⟨by have h:=HE.out;rw [if_neg (by omega)] at h;rw [h];rfl,hS.1⟩
    go_roundg (gk-1)
    case measure=>omega
    case rel=>exact ⟨1,by omega,rfl,fun _=>by omega,fun h=>absurd h (by omega),hS.sub AV⟩
   have h1:=HA (by omega)
   subst h1
   repeat' (first
    | (refine Al 73 ?_);refine Am AA Tryz.call73 (Ca _ C2 S2 a2 n2 k2 hC2 (hs2.ext hS.1) hn2) ?_;rintro e w ⟨rfl,hE2⟩;rw [HE2.out];replace hS:=hS.ext hE2;clear hE2;refine AX ?_;go_step|refine X0 ?_|refine X2 ?_|refine WP 15 ?_|refine X3 ?_|refine X7 ?_|refine KZ ?_|refine RC 5 ?_;clear hS;intro g5 w hS|refine RE ?_;clear hS;intro w hS|refine AH ?_;go_step|fail)
   ·refine AM (xs:=[_,_]) rfl (.cons (AB.tmp rfl) (.cons (AB.tmp rfl) (.nil))) (by simp) rfl ?_
    exact ⟨by have h:=HE.out;rw [if_pos rfl] at h;rw [h];rfl,hS.1⟩
   go_roundg (gk-1)
   case measure=>omega
   case rel=>exact ⟨2,by omega,rfl,fun _=>rfl,fun _=>by omega,hS.sub AV⟩
  have h1:=HA (by omega)
  have h2:=HB (by omega)
  exact absurd (by have h:=HE.out;rw [if_pos h1,h2] at h;exact h.symm) h0
theorem If(w0:World)(C1 C2 S1 S2:List Int)(a1 a2:Option Addr)(n1 n2 k1 k2:Nat)(hC1:Ac C1 16)(hC2:Ac C2 16)(hs1:Sl w0 1 (.slice a1 n1 k1) n1 (S1.map (Value.int .i64)))(hs2:Sl w0 1 (.slice a2 n2 k2) n2 (S2.map (Value.int .i64)))(hn1:n1≤9223372036854775807)(hn2:n2≤9223372036854775807)(hE1:A4 C1 S1=0)(hE2:A4 C2 S2=0):
 Calls Tryz.prog 85 #[.agg (AF [.ints C1, .val (.slice a1 n1 k1), .ints C2, .val (.slice a2 n2 k2)]).toArray] w0 fun e w=>∃g,e= .returned (.tuple #[.pointer (some ⟨g,0,none⟩), .int .i64 0])∧St w0 w [b6 g (Bw C1 S1) (Bw C2 S2)]:=by
 have hS:=St.start w0
 have hL1:=AD (Dw C1 (.slice a1 n1 k1) hC1)
 have hL2:=AD (Dw C2 (.slice a2 n2 k2) hC2)
 have HE1:=AD hE1
 have HE2:=AD hE2
 clear hE1 hE2
 go_enter Tryz.func85,Tryz.ntmps85
 repeat' (first
  | (refine AP 11 ?_);refine Ad ?_;refine AT (o:=⟨some 11,_,_,_,_,_⟩) hS 115 2 _ rfl 32 17 152 M9 _ _ (AW.agg rfl hL1.out (AW.agg rfl hL2.out AW.nil)) rfl (by decide) (by decide) ?_;clear hS;intro g11 w hS;replace hS:=I1 hS;refine AC ?_;go_step|refine X0 ?_|refine Zp ?_|refine Zq ?_|refine ek ?_|refine PE 1 ?_;clear hS;intro g1 w hS|refine KZ ?_|refine AH ?_;go_step|fail)
 clear hL1 hL2
 go_loopg [13] 2 (fun gk kv w=>∃k:Nat,gk+k=2∧kv= .int .i64 k∧St w0 w [prt g1 [.ints C1, .val (.slice a1 n1 k1), .ints C2, .val (.slice a2 n2 k2)],prt g11 [.ints C1, .val (.slice a1 n1 k1), .ints C2, .val (.slice a2 n2 k2)]])
 case atStart=>exact ⟨0,rfl,rfl,hS.sub AV⟩
 case round=>
  clear hS
  obtain ⟨k,hk,rfl,hS⟩:=hrel
  by_cases hlt:k<2
  ·obtain rfl|rfl:k=0∨k=1:=by omega
   ·repeat' (first
     | (refine Al 73 ?_);refine Am AA Tryz.call73 (Ca _ C1 S1 a1 n1 k1 hC1 (hs1.ext hS.1) hn1) ?_;rintro e w ⟨rfl,hE2⟩;rw [HE1.out];replace hS:=hS.ext hE2;clear hE2;refine AX ?_;go_step|refine X0 ?_|refine X2 ?_|refine WP 15 ?_|refine X3 ?_|refine KZ ?_|refine RC 5 ?_;clear hS;intro g5 w hS|refine RE ?_;clear hS;intro w hS|refine AH ?_;go_step|fail)
    repeat' (first
     | refine X1 ?_|refine X7 ?_|refine AH ?_;go_step|fail)
    all_goals (try exact AQ)
    go_roundg (gk-1)
    case measure=>omega
    case rel=>exact ⟨1,by omega,rfl,hS.sub AV⟩
   repeat' (first
    | (refine Al 73 ?_);refine Am AA Tryz.call73 (Ca _ C2 S2 a2 n2 k2 hC2 (hs2.ext hS.1) hn2) ?_;rintro e w ⟨rfl,hE2⟩;rw [HE2.out];replace hS:=hS.ext hE2;clear hE2;refine AX ?_;go_step|refine X0 ?_|refine X2 ?_|refine WP 15 ?_|refine X3 ?_|refine KZ ?_|refine RC 5 ?_;clear hS;intro g5 w hS|refine RE ?_;clear hS;intro w hS|refine AH ?_;go_step|fail)
   repeat' (first
    | refine X1 ?_|refine X7 ?_|refine AH ?_;go_step|fail)
   all_goals (try exact AQ)
   go_roundg (gk-1)
   case measure=>omega
   case rel=>exact ⟨2,by omega,rfl,hS.sub AV⟩
  obtain rfl:k=2:=by omega
  repeat' (first
   | refine X2 ?_|refine AH ?_;go_step|fail)
  apply Yc (rs:=fun g25 g28 g30=>[b6 g30 (Bw C1 S1) (Bw C2 S2)])
  ·refine AR [5,7] (fun w=>St w0 w [prt g1 [.ints C1, .val (.slice a1 n1 k1), .ints C2, .val (.slice a2 n2 k2)]]) AA ?_
   replace hS:=hS.drew
   focus
    refine BX 0 BU (V.fieldAddr Ww rfl BK) ?_;go_step
    apply Cr 1 Ar AA AA AA Cp [2,5,6,7,8,9] AA (hS.sub AV)
    case hfr=>intro w hS;((refine Ad ?_;apply Cq hS 32 _ rfl _ _ rfl 17 (AO rfl) _;(case hp=>exact AK);(case hi=>(repeat (first|(apply GZ.head;(repeat (first|exact Bi.nil|(apply Bi.ints;(case hn=>exact DW);(case h=>omega);(case hm=>rfl))|apply Bi.val)))|(apply GZ.skipI;(case hn=>exact DW);(case h=>omega);(case ho=>rfl))|apply GZ.skipV)));refine AC ?_;go_step));refine wpList_nil ?_;exact ⟨rfl,rfl⟩
    case hd=>rfl
    refine BX 3 BU (V.fieldAddr Wx rfl BK) ?_;go_step
    apply Cr 4 Ar AA AA AA Cp [5,6,7,8,9] AA (hS.sub AV)
    case hfr=>intro w hS;((refine Ad ?_;apply Cq hS 32 _ rfl _ _ rfl 17 (AO rfl) _;(case hp=>exact AK);(case hi=>(repeat (first|(apply GZ.head;(repeat (first|exact Bi.nil|(apply Bi.ints;(case hn=>exact DW);(case h=>omega);(case hm=>rfl))|apply Bi.val)))|(apply GZ.skipI;(case hn=>exact DW);(case h=>omega);(case ho=>rfl))|apply GZ.skipV)));refine AC ?_;go_step));refine wpList_nil ?_;exact ⟨rfl,rfl⟩
    case hd=>rfl
    refine At 2 ?_
    refine AY (f:=118) rfl Tryz.call118 (Ih _ C1 S1 a1 n1 k1 hC1 (hs1.ext hS.1) hn1 HE1.out) ?_;rintro e w ⟨g25,rfl,hS2⟩;replace hS:=hS.call1 hS2;clear hS2;refine ⟨_,rfl,?_⟩
    refine ⟨fun _ _=>hS.sub AV,?_⟩
    refine AL ?_
    go_step
    refine At 5 ?_
    refine AY (f:=118) rfl Tryz.call118 (Ih _ C2 S2 a2 n2 k2 hC2 (hs2.ext hS.1) hn2 HE2.out) ?_;rintro e w ⟨g28,rfl,hS2⟩;replace hS:=hS.call1 hS2;clear hS2;refine ⟨_,rfl,?_⟩
    refine ⟨fun h=>absurd (by decide) h,?_⟩
    refine AL ?_
    go_step
    refine BX 6 BU (V.build (vs:=[(0,_),(1,_)]) rfl (UX _ _)) ?_;go_step
    refine At 7 ?_
    (refine CL (o:=⟨some 30,_,_,_,_,_⟩) hS 181 _ rfl _ rfl ?_;clear hS;intro g30 w hS)
    refine ⟨fun h=>absurd (by decide) h,?_⟩
    refine AL ?_
    go_step
    refine iP 8 BU ?_;go_step
    refine iP 9 BU ?_;go_step
    refine AE AA ?_ _
    exact ⟨rfl,g25,g28,g30,rfl,St.close (g25,g28) (by dsimp only [List.cons_append,List.nil_append];exact hS.sub AV)⟩
  clear hS
  intro g25 g28 g30 w hS
  repeat' (first|(refine AH ?_;go_step)|fail)
  refine AM (xs:=[_,_]) rfl (.cons (AB.tmp rfl) (.cons (AB.tmp rfl) (.nil))) (by simp) rfl ?_
  exact ⟨g30,rfl,hS⟩
end Go.Proofs.YtohacgmhmbijmaaGreatDoor
/-
  DERIVED:THE SHELF's CONTRACTS AT THIS DUMP,IN PLAIN WORDS (tools/lay-plain.mjs out of 'TryzShelf.lean',which tools/lay-shelf.mjs wrote):THE SAME DECLARATIONS UNDER THE SAME NAMES:'import', 'namespace', 'open', 'def', 'theorem' AND NOTHING ELSE:no command of the shelf's:FOR A HAND-IN. Each laying:the table of numbers ('.._ren') and one theorem,a field a fact of the dump's own or the kernel's comparison;each contract:ONE APPLICATION.
-/
namespace Go.Proofs
open Go.Shelf
def Tryz.lays125_ren:Go.Shelf.Ren:=⟨fun|125=>153|128=>158|129=>159|n=>n,fun|46=>116|3=>3|51=>220|53=>169|4=>4|5=>5|9=>9|n=>n,fun|n=>n⟩
theorem Tryz.lays125:Go.Proofs.Lays.n125 Tryz.prog Tryz.lays125_ren:={
  mixed:=by kernel_rfl
  f125:=Tryz.func153.trans (congrArg some (by kernel_rfl))
  f128:=Tryz.func158.trans (congrArg some (by kernel_rfl))
  f129:=Tryz.func159.trans (congrArg some (by kernel_rfl))
  t3:=Tryz.underlying3
  a3:=Tryz.isAgg3
  z3:=Tryz.sizeOf3
  v3:=Tryz.zeroValue3
  t4:=Tryz.underlying4
  a4:=Tryz.isAgg4
  z4:=Tryz.sizeOf4
  v4:=Tryz.zeroValue4
  t5:=Tryz.underlying5
  a5:=Tryz.isAgg5
  z5:=Tryz.sizeOf5
  v5:=Tryz.zeroValue5
  t9:=Tryz.underlying9
  a9:=Tryz.isAgg9
  z9:=Tryz.sizeOf9
  v9:=Tryz.zeroValue9
  t46:=Tryz.underlying116
  a46:=Tryz.isAgg116
  z46:=Tryz.sizeOf116
  v46:=Tryz.zeroValue116
  t51:=Tryz.underlying220
  a51:=Tryz.isAgg220
  z51:=Tryz.sizeOf220
  v51:=Tryz.zeroValue220
  t53:=Tryz.underlying169
  a53:=Tryz.isAgg169
  z53:=Tryz.sizeOf169
  v53:=Tryz.zeroValue169}
/-- bits.Len: "Len returns the minimum number of bits required to represent x; the result is 0 for x == 0.": IT RETURNS 'Lib.bitLen x'; the world is as it was. (A uint has 64 bits in the model.) ITS CALLEE bits.Len64 IS MET BY ITS OWN CONTRACT OFF THE SHELF (lay that first). (LAID: no walk: one application.) -/
theorem Tryz.bits_Len(x:Int)(w:World)(h0:0≤x)(h1:x≤18446744073709551615):
    Calls Tryz.prog 153 #[.int .u64 x] w fun e w'=>e= .returned (.int .i64 (Lib.bitLen x.toNat))∧w'=w:=Any.bits_Len Tryz.lays125 x w h0 h1
def Tryz.lays185_ren:Go.Shelf.Ren:=⟨fun|185=>142|187=>148|115=>70|253=>149|224=>150|254=>151|255=>156|291=>157|n=>n,fun|37=>35|3=>3|4=>4|0=>0|5=>5|46=>116|9=>9|146=>221|51=>220|n=>n,fun|1=>0|n=>n⟩
theorem Tryz.lays185:Go.Proofs.Lays.n185 Tryz.prog Tryz.lays185_ren:={
  mixed:=by kernel_rfl
  f115:=Tryz.func70.trans (congrArg some (by kernel_rfl))
  f185:=Tryz.func142.trans (congrArg some (by kernel_rfl))
  f187:=Tryz.func148.trans (congrArg some (by kernel_rfl))
  f224:=Tryz.func150.trans (congrArg some (by kernel_rfl))
  f253:=Tryz.func149.trans (congrArg some (by kernel_rfl))
  f254:=Tryz.func151.trans (congrArg some (by kernel_rfl))
  f255:=Tryz.func156.trans (congrArg some (by kernel_rfl))
  f291:=Tryz.func157.trans (congrArg some (by kernel_rfl))
  t0:=Tryz.underlying0
  a0:=Tryz.isAgg0
  z0:=Tryz.sizeOf0
  v0:=Tryz.zeroValue0
  t3:=Tryz.underlying3
  a3:=Tryz.isAgg3
  z3:=Tryz.sizeOf3
  v3:=Tryz.zeroValue3
  t4:=Tryz.underlying4
  a4:=Tryz.isAgg4
  z4:=Tryz.sizeOf4
  v4:=Tryz.zeroValue4
  t5:=Tryz.underlying5
  a5:=Tryz.isAgg5
  z5:=Tryz.sizeOf5
  v5:=Tryz.zeroValue5
  t9:=Tryz.underlying9
  a9:=Tryz.isAgg9
  z9:=Tryz.sizeOf9
  v9:=Tryz.zeroValue9
  t37:=Tryz.underlying35
  a37:=Tryz.isAgg35
  z37:=Tryz.sizeOf35
  v37:=Tryz.zeroValue35
  t46:=Tryz.underlying116
  a46:=Tryz.isAgg116
  z46:=Tryz.sizeOf116
  v46:=Tryz.zeroValue116
  t51:=Tryz.underlying220
  a51:=Tryz.isAgg220
  z51:=Tryz.sizeOf220
  v51:=Tryz.zeroValue220
  t146:=Tryz.underlying221
  a146:=Tryz.isAgg221
  z146:=Tryz.sizeOf221
  v146:=Tryz.zeroValue221
  g1:=by kernel_rfl}
def Tryz.laysSlB13_ren:Go.Shelf.Ren:=⟨fun|13=>141|24=>146|25=>147|12=>142|31=>155|19=>148|20=>70|21=>149|22=>150|23=>151|29=>156|30=>157|n=>n,fun|22=>35|3=>3|4=>4|0=>0|5=>5|9=>9|33=>116|40=>221|39=>220|n=>n,fun|0=>0|n=>n⟩
theorem Tryz.laysSlB13:Go.Proofs.SlLaysB.n13 Tryz.prog Tryz.laysSlB13_ren:={
  mixed:=by kernel_rfl
  f13:=Tryz.func141.trans (congrArg some (by kernel_rfl))
  f25:=Tryz.func147.trans (congrArg some (by kernel_rfl))
  t0:=Tryz.underlying0
  a0:=Tryz.isAgg0
  z0:=Tryz.sizeOf0
  v0:=Tryz.zeroValue0
  t3:=Tryz.underlying3
  a3:=Tryz.isAgg3
  z3:=Tryz.sizeOf3
  v3:=Tryz.zeroValue3
  t4:=Tryz.underlying4
  a4:=Tryz.isAgg4
  z4:=Tryz.sizeOf4
  v4:=Tryz.zeroValue4
  t5:=Tryz.underlying5
  a5:=Tryz.isAgg5
  z5:=Tryz.sizeOf5
  v5:=Tryz.zeroValue5
  t22:=Tryz.underlying35
  a22:=Tryz.isAgg35
  z22:=Tryz.sizeOf35
  v22:=Tryz.zeroValue35}
open Go.RowKit Go.Lib in
/-- The same, s AT WHATEVER ADDRESS, its cells as 'open_ints' hands them ('a.add i'). (LAID: no walk: one application.) -/
theorem Tryz.bytes_Count_one_at(a:Addr)(n c b2 o2 d:Nat)(xs:List Int)(cv:Int)(w:World)(hx:xs.length=n)(hc:∀i,i<n→w.cell? (a.add i)=some (.int .u8 (xs.getD i 0)))(hc2:w.cell? ⟨b2,o2,none⟩=some (.int .u8 cv)):
    Calls Tryz.prog 141 #[.slice (some a) n c, .slice (some ⟨b2,o2,none⟩) 1 d] w fun e w'=>e= .returned (.int .i64 (Lib.countByte (Lib.bytesOf xs) cv.toNat.toUInt8))∧w'=w:=Any.bytes_Count_one_at Tryz.laysSlB13 a n c b2 o2 d xs cv w hx hc hc2
open Go.RowKit Go.Lib in
/-- The same where s is nil: 0. (LAID: no walk: one application.) -/
theorem Tryz.bytes_Count_one_nil(b2 o2 d:Nat)(cv:Int)(w:World)(hc2:w.cell? ⟨b2,o2,none⟩=some (.int .u8 cv)):
    Calls Tryz.prog 141 #[.slice none 0 0, .slice (some ⟨b2,o2,none⟩) 1 d] w fun e w'=>e= .returned (.int .i64 0)∧w'=w:=Any.bytes_Count_one_nil Tryz.laysSlB13 b2 o2 d cv w hc2
open Go.RowKit Go.Lib in
/-- bytes.Index at a separator of one byte, s at whatever address. (LAID: no walk: one application.) -/
theorem Tryz.bytes_Index_one_at(a:Addr)(n c b2 o2 d:Nat)(xs:List Int)(cv:Int)(w:World)(hx:xs.length=n)(hc:∀i,i<n→w.cell? (a.add i)=some (.int .u8 (xs.getD i 0)))(hc2:w.cell? ⟨b2,o2,none⟩=some (.int .u8 cv)):
    Calls Tryz.prog 142 #[.slice (some a) n c, .slice (some ⟨b2,o2,none⟩) 1 d] w fun e w'=>e= .returned (.int .i64 (Lib.indexByte (Lib.bytesOf xs) cv.toNat.toUInt8))∧w'=w:=Any.bytes_Index_one_at Tryz.lays185 a n c b2 o2 d xs cv w hx hc hc2
def Tryz.lays115_ren:Go.Shelf.Ren:=⟨fun|115=>70|n=>n,fun|37=>35|4=>4|9=>9|5=>5|n=>n,fun|n=>n⟩
open Go.Proofs Go.RowKit Go.Lib in
/-- bytes.Index, WHOLE: "Index returns the index of the first instance of sep in s, or -1 if sep is not present in s.": 'Lib.index' of the two lists of bytes. (LAID: no walk: one application.) -/
theorem Tryz.bytes_Index_at(a1 a2:Addr)(n c1 k c2:Nat)(xs ys:List Int)(m:Int)(w:World)(hx:xs.length=n)(hy:ys.length=k)(hr1:∀x∈xs,0≤x∧x<256)(hr2:∀y∈ys,0≤y∧y<256)(hc1:∀i,i<n→w.cell? (a1.add i)=some (.int .u8 (xs.getD i 0)))(hc2:∀i,i<k→w.cell? (a2.add i)=some (.int .u8 (ys.getD i 0)))(hcap:n≤c1)(hs:n<4294967281)(hk:k≤9223372036854775807)(hm:w.cell? ⟨0,0,none⟩=some (.int .i64 m)):
    Calls Tryz.prog 142 #[.slice (some a1) n c1, .slice (some a2) k c2] w fun e w'=>e= .returned (.int .i64 (Lib.index (Lib.bytesOf xs) (Lib.bytesOf ys)))∧∃q,w'=w.drewN q:=Any.bytes_Index_at Tryz.lays185 a1 a2 n c1 k c2 xs ys m w hx hy hr1 hr2 hc1 hc2 hcap hs hk hm
def Tryz.laysM185_ren:Go.Shelf.Ren:=⟨fun|185=>142|187=>148|115=>70|253=>149|224=>150|254=>151|255=>156|291=>157|n=>n,fun|37=>35|3=>3|4=>4|0=>0|5=>5|46=>116|9=>9|146=>221|51=>220|n=>n,fun|1=>0|n=>n⟩
theorem Tryz.laysM185:Go.Proofs.LaysM.n185 Tryz.prog Tryz.laysM185_ren:={
  mixed:=by kernel_rfl
  f115:=Tryz.func70.trans (congrArg some (by kernel_rfl))
  f185:=Tryz.func142.trans (congrArg some (by kernel_rfl))
  f187:=Tryz.func148.trans (congrArg some (by kernel_rfl))
  f224:=Tryz.func150.trans (congrArg some (by kernel_rfl))
  f253:=Tryz.func149.trans (congrArg some (by kernel_rfl))
  f254:=Tryz.func151.trans (congrArg some (by kernel_rfl))
  f255:=Tryz.func156.trans (congrArg some (by kernel_rfl))
  f291:=Tryz.func157.trans (congrArg some (by kernel_rfl))
  t0:=Tryz.underlying0
  a0:=Tryz.isAgg0
  z0:=Tryz.sizeOf0
  v0:=Tryz.zeroValue0
  t3:=Tryz.underlying3
  a3:=Tryz.isAgg3
  z3:=Tryz.sizeOf3
  v3:=Tryz.zeroValue3
  t4:=Tryz.underlying4
  a4:=Tryz.isAgg4
  z4:=Tryz.sizeOf4
  v4:=Tryz.zeroValue4
  t5:=Tryz.underlying5
  a5:=Tryz.isAgg5
  z5:=Tryz.sizeOf5
  v5:=Tryz.zeroValue5
  t9:=Tryz.underlying9
  a9:=Tryz.isAgg9
  z9:=Tryz.sizeOf9
  v9:=Tryz.zeroValue9
  t37:=Tryz.underlying35
  a37:=Tryz.isAgg35
  z37:=Tryz.sizeOf35
  v37:=Tryz.zeroValue35
  t46:=Tryz.underlying116
  a46:=Tryz.isAgg116
  z46:=Tryz.sizeOf116
  v46:=Tryz.zeroValue116
  t51:=Tryz.underlying220
  a51:=Tryz.isAgg220
  z51:=Tryz.sizeOf220
  v51:=Tryz.zeroValue220
  t146:=Tryz.underlying221
  a146:=Tryz.isAgg221
  z146:=Tryz.sizeOf221
  v146:=Tryz.zeroValue221
  g1:=by kernel_rfl
  i0:=by kernel_rfl
  i3:=by kernel_rfl
  i4:=by kernel_rfl
  i5:=by kernel_rfl
  i9:=by kernel_rfl
  i37:=by kernel_rfl
  i46:=by kernel_rfl
  i51:=by kernel_rfl
  i146:=by kernel_rfl
  m1:=by kernel_rfl
  s1_3:=fun w h=>Go.Proofs.cell_of_shapedOpen_int (zero:=#[.int .i64 0]) (t:=3) h (of_decide_eq_true (by kernel_rfl)) (by kernel_rfl) rfl (by kernel_rfl) (by kernel_rfl) Tryz.underlying3}
def Tryz.laysSlC13_ren:Go.Shelf.Ren:=⟨fun|13=>141|24=>146|25=>147|12=>142|31=>155|19=>148|20=>70|21=>149|22=>150|23=>151|29=>156|30=>157|n=>n,fun|22=>35|3=>3|4=>4|0=>0|5=>5|9=>9|33=>116|40=>221|39=>220|n=>n,fun|0=>0|n=>n⟩
theorem Tryz.laysSlC13:Go.Proofs.SlLaysC.n13 Tryz.prog Tryz.laysSlC13_ren:={
  mixed:=by kernel_rfl
  f12:=Tryz.func142.trans (congrArg some (by kernel_rfl))
  f13:=Tryz.func141.trans (congrArg some (by kernel_rfl))
  f19:=Tryz.func148.trans (congrArg some (by kernel_rfl))
  f20:=Tryz.func70.trans (congrArg some (by kernel_rfl))
  f21:=Tryz.func149.trans (congrArg some (by kernel_rfl))
  f22:=Tryz.func150.trans (congrArg some (by kernel_rfl))
  f23:=Tryz.func151.trans (congrArg some (by kernel_rfl))
  f25:=Tryz.func147.trans (congrArg some (by kernel_rfl))
  f29:=Tryz.func156.trans (congrArg some (by kernel_rfl))
  f30:=Tryz.func157.trans (congrArg some (by kernel_rfl))
  t0:=Tryz.underlying0
  a0:=Tryz.isAgg0
  z0:=Tryz.sizeOf0
  v0:=Tryz.zeroValue0
  t3:=Tryz.underlying3
  a3:=Tryz.isAgg3
  z3:=Tryz.sizeOf3
  v3:=Tryz.zeroValue3
  t4:=Tryz.underlying4
  a4:=Tryz.isAgg4
  z4:=Tryz.sizeOf4
  v4:=Tryz.zeroValue4
  t5:=Tryz.underlying5
  a5:=Tryz.isAgg5
  z5:=Tryz.sizeOf5
  v5:=Tryz.zeroValue5
  t9:=Tryz.underlying9
  a9:=Tryz.isAgg9
  z9:=Tryz.sizeOf9
  v9:=Tryz.zeroValue9
  t22:=Tryz.underlying35
  a22:=Tryz.isAgg35
  z22:=Tryz.sizeOf35
  v22:=Tryz.zeroValue35
  t33:=Tryz.underlying116
  a33:=Tryz.isAgg116
  z33:=Tryz.sizeOf116
  v33:=Tryz.zeroValue116
  t39:=Tryz.underlying220
  a39:=Tryz.isAgg220
  z39:=Tryz.sizeOf220
  v39:=Tryz.zeroValue220
  t40:=Tryz.underlying221
  a40:=Tryz.isAgg221
  z40:=Tryz.sizeOf221
  v40:=Tryz.zeroValue221
  g0:=by kernel_rfl}
open Go.RowKit Go.Lib in
/-- bytes.Count at a separator of two bytes or more: "Count counts the number of non-overlapping instances of sep in s.": 'Lib.count' of the two lists of bytes. (LAID: no walk: one application.) -/
theorem Tryz.bytes_Count_at(a1 a2:Addr)(n c1 k c2:Nat)(xs ys:List Int)(m:Int)(w:World)(hx:xs.length=n)(hy:ys.length=k)(hr1:∀x∈xs,0≤x∧x<256)(hr2:∀y∈ys,0≤y∧y<256)(hc1:∀i,i<n→w.cell? (a1.add i)=some (.int .u8 (xs.getD i 0)))(hc2:∀i,i<k→w.cell? (a2.add i)=some (.int .u8 (ys.getD i 0)))(hcap:n≤c1)(hs:n<4294967281)(hk:k≤9223372036854775807)(h2:2≤k)(hm:w.cell? ⟨0,0,none⟩=some (.int .i64 m)):
    Calls Tryz.prog 141 #[.slice (some a1) n c1, .slice (some a2) k c2] w fun e w'=>e= .returned (.int .i64 (Lib.count (Lib.bytesOf xs) (Lib.bytesOf ys)))∧∃q,w'=w.drewN q:=Any.bytes_Count_at Tryz.laysSlC13 a1 a2 n c1 k c2 xs ys m w hx hy hr1 hr2 hc1 hc2 hcap hs hk h2 hm
open Go.RowKit Go.Lib in
/-- bytes.Count at a separator of two bytes or more where s is nil: 0. (LAID: no walk: one application.) -/
theorem Tryz.bytes_Count_nil(p2:Option Addr)(k c2:Nat)(w:World)(h2:2≤k)(hk:k≤9223372036854775807):
    Calls Tryz.prog 141 #[.slice none 0 0, .slice p2 k c2] w fun e w'=>e= .returned (.int .i64 0)∧w'=w:=Any.bytes_Count_nil Tryz.laysSlC13 p2 k c2 w h2 hk
def Tryz.laysSlK4_ren:Go.Shelf.Ren:=⟨fun|4=>69|n=>n,fun|22=>35|4=>4|5=>5|n=>n,fun|n=>n⟩
theorem Tryz.laysSlK4:Go.Proofs.SlLaysK.n4 Tryz.prog Tryz.laysSlK4_ren:={
  mixed:=by kernel_rfl
  f4:=Tryz.func69.trans (congrArg some (by kernel_rfl))
  t4:=Tryz.underlying4
  a4:=Tryz.isAgg4
  z4:=Tryz.sizeOf4
  v4:=Tryz.zeroValue4
  t22:=Tryz.underlying35
  a22:=Tryz.isAgg35
  z22:=Tryz.sizeOf35
  v22:=Tryz.zeroValue35
  t5:=Tryz.underlying5
  i5:=by kernel_rfl}
open Go.RowKit Go.Lib in
/-- bytes.Clone: "Clone returns a copy of b[:len(b)]. The result may have additional unused capacity.": OF A SLICE THAT IS NOT nil IT RETURNS A SLICE THAT IS NOT nil, OF THE SAME BYTES, IN MEMORY OF THE CALL's OWN: in the how-to's words (6f): 'w'.ownsRow B e 1 v' n cells' · 'Below B w w'', B the heap's size at the call. b AT WHATEVER ADDRESS, its cells as 'open_ints' hands them ('a.add i'; the numbers 'xs'). No byte: no cell is asked for. (LAID: no walk: one application.) -/
theorem Tryz.bytes_Clone_at(a:Addr)(n c:Nat)(xs:List Int)(w:World)(hx:xs.length=n)(hbig:n≤140737488355328)(hc:∀i,i<n→w.cell? (a.add i)=some (.int .u8 (xs.getD i 0))):
    Calls Tryz.prog 69 #[.slice (some a) n c] w fun e w'=>∃v',e= .returned v'∧w'.ownsRow w.heap.size 5 1 v' n (xs.map (Value.int .u8))∧v'≠ .slice none 0 0∧Below w.heap.size w w':=Any.bytes_Clone_at Tryz.laysSlK4 a n c xs w hx hbig hc
open Go.RowKit Go.Lib in
/-- "Clone(nil) returns nil.": the world is as it was. (LAID: no walk: one application.) -/
theorem Tryz.bytes_Clone_nil(n c:Nat)(w:World):
    Calls Tryz.prog 69 #[.slice none n c] w fun e w'=>e= .returned (.slice none 0 0)∧w'=w:=Any.bytes_Clone_nil Tryz.laysSlK4 n c w
def Tryz.laysnb115_ren:Go.Shelf.Ren:=⟨fun|115=>70|n=>n,fun|37=>35|4=>4|9=>9|5=>5|n=>n,fun|n=>n⟩
theorem Tryz.laysnb115:Go.Proofs.Lays.nb115 Tryz.prog Tryz.laysnb115_ren:={
  mixed:=by kernel_rfl
  f115:=Tryz.func70.trans (congrArg some (by kernel_rfl))
  t4:=Tryz.underlying4
  a4:=Tryz.isAgg4
  z4:=Tryz.sizeOf4
  v4:=Tryz.zeroValue4
  t9:=Tryz.underlying9
  a9:=Tryz.isAgg9
  z9:=Tryz.sizeOf9
  v9:=Tryz.zeroValue9
  t37:=Tryz.underlying35
  a37:=Tryz.isAgg35
  z37:=Tryz.sizeOf35
  v37:=Tryz.zeroValue35
  t5:=Tryz.underlying5
  a5:=Tryz.isAgg5
  z5:=Tryz.sizeOf5
  v5:=Tryz.zeroValue5}
/-- bytes.Equal: WHOLE. (LAID: no walk: one application.) -/
theorem Tryz.bytes_Equal_all(p1 p2:Option Addr)(n c m d:Nat)(xs ys:List Int)(w:World)(hx:xs.length=n)(hy:ys.length=m)(h1:Lib.BytesIn w p1 n xs)(h2:Lib.BytesIn w p2 m ys):
    Calls Tryz.prog 70 #[.slice p1 n c, .slice p2 m d] w fun e w'=>e= .returned (.bool (Lib.bytesOf xs==Lib.bytesOf ys))∧w'=w:=Any.bytes_Equal_all Tryz.laysnb115 p1 p2 n c m d xs ys w hx hy h1 h2
end Go.Proofs
namespace Go.Proofs.YtohacgmhmbijmaaGreatDoor
attribute [local irreducible] Region.wanted
open Go.RowKit
set_option linter.unusedVariables false
set_option maxRecDepth 100000
set_option maxHeartbeats 8000000
def JR(n:Nat):Nat:=if n=0 then 0 else n.log2+1
theorem Gb(n:Nat):n<2^JR n∧(0<n→1≤JR n∧2^(JR n-1)≤n):=by
 unfold JR
 by_cases h:n=0
 ·subst h;simp
 rw [if_neg h]
 exact ⟨Nat.lt_log2_self,fun _=>⟨by omega,by rw [Nat.add_sub_cancel];exact Nat.log2_self_le h⟩⟩
theorem Ka(n k:Nat)(h:n<2^k):JR n≤k:=by
 obtain ⟨_,h2⟩:=Gb n
 rcases Nat.eq_zero_or_pos n with h0|h0
 ·subst h0;simp [JR]
 obtain ⟨h3,h4⟩:=h2 h0
 have h5:=Nat.lt_of_le_of_lt h4 h
 have:=(Nat.pow_lt_pow_iff_right (show 1<2 by omega)).1 h5
 omega
theorem PP(n k:Nat)(h1:2^k≤n)(h2:n<2^(k+1)):JR n=k+1:=by
 have h3:=Ka n (k+1) h2
 obtain ⟨h4,_⟩:=Gb n
 have h5:=Nat.lt_of_le_of_lt h1 h4
 have:=(Nat.pow_lt_pow_iff_right (show 1<2 by omega)).1 h5
 omega
theorem WY(n:Nat)(h:n<2^64):Lib.bitLen n=JR n:=by
 rcases Nat.eq_zero_or_pos n with h0|h0
 ·subst h0;rfl
 obtain ⟨h1,h2,h3⟩:=Lib.bitLenAux_bounds 64 n h (by omega)
 have:=PP n (Lib.bitLen n-1) h2 (by rw [show Lib.bitLen n-1+1=Lib.bitLen n by have:1≤Lib.bitLen n:=h1;omega];exact h3)
 have h4:1≤Lib.bitLen n:=h1
 omega
theorem TP(x:Nat)(w:World)(h:x<65536):Calls Tryz.prog 153 #[.int .u64 x] w fun e w'=>e= .returned (.int .i64 (JR x))∧w=w':=
 (Tryz.bits_Len x w (by omega) (by omega)).mono fun e w' ⟨h1,h2⟩=>⟨by rw [h1,Int.toNat_natCast,WY x (by omega)],h2.symm⟩
def sz(n:Int):Nat:=JR n.natAbs
def sv(n:Int):Int:=if n<0 then n+(2^sz n-1:Nat) else n
theorem Tr(n:Int)(h: -4096<n∧n<4096):sz n≤12:=Ka _ 12 (by omega)
theorem Ob(n:Int)(w:World)(h0: -4096<n)(h1:n<4096):
 Calls Tryz.prog 144 #[.int .i64 n] w fun e w'=>e= .returned (.tuple #[.int .i64 (sz n), .int .i64 (sv n), .int .i64 0])∧w=w':=by
 obtain ⟨m,hm⟩:∃m,m=n.natAbs:=⟨_,rfl⟩
 have hmax:max n (-n)=(m:Int):=by omega
 have hm4:m<4096:=by omega
 have hu:IntKind.u64.wrap (m:Int)=(m:Int):=by simp [IntKind.wrap,IntKind.signed,IntKind.bits];omega
 have h2: -4095≤n:=by omega
 obtain ⟨k,hk⟩:∃k,JR m=k:=⟨_,rfl⟩
 have hk12:k≤12:=by rw [←hk];exact Ka m 12 (by omega)
 have HV:=AD (show sv n=if n<0 then n+(2^sz n-1:Nat) else n from rfl)
 have HK:=AD hk
 have HZ:Hid (sz n=k):=by unfold Hid sz;rw [←hm,hk]
 have HPW:=AD (mask_i64 k (by omega))
 have hp1:2^k≤2^12:=Nat.pow_le_pow_right (by omega) hk12
 have hp0:=Nat.two_pow_pos k
 have hq4:2^k-1≤4095:=by omega
 obtain ⟨q,hq⟩:∃q,2^k-1=q:=⟨_,rfl⟩
 rw [hq] at HPW hq4
 have HQ:=AD hq
 have hk64:(k:Int)<64:=by omega
 clear hm hp1 hp0 hq hk
 by_cases hn:n<0
 ·have HV2:Hid (sv n=n+(q:Int)):=by unfold Hid;rw [HV.out,if_pos hn,HZ.out,HQ.out]
  clear HV
  have hpw:=HPW.out
  clear HPW
  go_enter Tryz.func144,Tryz.ntmps144
  go_wp2_with (go_at_call 153;refine (TP m _ (by omega)).mono ?_;rintro e w' ⟨rfl,rfl⟩;rw [HK.out])
  refine bodyPost_ret (results_tmp3 rfl _ _ _) rfl ?_
  exact ⟨by rw [HZ.out,HV2.out];rfl,rfl⟩
 have HV2:Hid (sv n=n):=by unfold Hid;rw [HV.out,if_neg hn]
 clear HV HPW
 go_enter Tryz.func144,Tryz.ntmps144
 go_wp2_with (go_at_call 153;refine (TP m _ (by omega)).mono ?_;rintro e w' ⟨rfl,rfl⟩;rw [HK.out])
 refine bodyPost_ret (results_tmp3 rfl _ _ _) rfl ?_
 exact ⟨by rw [HZ.out,HV2.out];rfl,rfl⟩
def D4(k v:Nat):Int:=if 0<k∧v<2^(k-1) then (v:Int)-(2^k-1:Nat) else v
theorem Oa(k v:Nat)(w:World)(hk:k≤12)(hv:v<2^k):
 Calls Tryz.prog 121 #[.int .i64 k, .int .i64 v] w fun e w'=>e= .returned (.tuple #[.int .i64 (D4 k v), .int .i64 0])∧w=w':=by
 have HPW:=AD (mask_i64 k (by omega))
 have HP:=AD (pow_i64 k (by omega))
 have hp1:2^k≤2^12:=Nat.pow_le_pow_right (by omega) hk
 have HB:=AD (show D4 k v=if 0<k∧v<2^(k-1) then (v:Int)-(2^k-1:Nat) else v from rfl)
 have hsh:0<k→((v:Int)/2^(k-1)==0)=decide (v<2^(k-1)):=fun h=>by
  have h3:((v:Int)/2^(k-1))=((v/2^(k-1):Nat):Int):=by push_cast;rfl
  rw [h3,Bool.eq_iff_iff]
  have h4:=Nat.two_pow_pos (k-1)
  have h5:=@Nat.div_eq_zero_iff v (2^(k-1))
  simp only [beq_iff_eq,decide_eq_true_eq]
  omega
 obtain ⟨q,hq⟩:∃q,2^k=q:=⟨_,rfl⟩
 rw [hq] at HPW hp1 hv HB HP
 have hq1:q-1≤4095:=by omega
 have hq0:k=0→q=1:=fun h=>by subst h;exact hq.symm
 clear hq
 have HF:Hid (wrap64 ((v:Int)-wrap64 ((q:Int)-1))=(v:Int)-((q-1:Nat):Int)):=by unfold Hid wrap64;omega
 have hv2:(v:Int)<(q:Int):=by omega
 have hv3:(0:Int)≤(v:Int):=by omega
 have hk1:(0:Int)≤(k:Int):=by omega
 have hk2:(k:Int)≤12:=by omega
 by_cases h0:k=0
 ·subst h0
  have hv0:v=0:=by have:=hq0 rfl;omega
  subst hv0
  have HV2:Hid (D4 0 0=0):=by unfold Hid;rw [HB.out,if_neg (by omega)];rfl
  clear HB HP HPW hsh hv hp1 hq1 hq0 HF hv2 hv3 hk hk1 hk2
  go_enter Tryz.func121,Tryz.ntmps121
  go_wp2_with fail
  go_ret2
  exact ⟨by rw [HV2.out];rfl,rfl⟩
 obtain ⟨r,rfl⟩:∃r,k=r+1:=⟨k-1,by omega⟩
 have hr0:(0:Int)≤(r:Int):=by omega
 have hr64:(r:Int)<64:=by omega
 have hs1:IntKind.i64.wrap (((r+1:Nat):Int)-1)=(r:Int):=by simp [IntKind.wrap,IntKind.signed,IntKind.bits];omega
 have hsh':=hsh (by omega)
 rw [Nat.add_sub_cancel] at hsh' HB
 have hpos:¬((r+1:Nat):Int)≤0:=by omega
 have hpos2:(0:Int)<((r+1:Nat):Int):=by omega
 have hpw:=HP.out
 have hpm:=HPW.out
 clear hsh HP HPW hq1 hq0 hp1 hk h0
 have hyp:¬(q:Int)≤(v:Int):=by omega
 by_cases hlt:v<2^r
 ·have HV2:Hid (D4 (r+1) v=(v:Int)-((q-1:Nat):Int)):=by unfold Hid;rw [HB.out,if_pos ⟨by omega,hlt⟩]
  have hsh2:((v:Int)/2^r==0)=true:=by rw [hsh',decide_eq_true hlt]
  clear hsh' HB hlt hv
  go_enter Tryz.func121,Tryz.ntmps121
  go_wp2_with fail
  go_ret2
  exact ⟨by rw [HV2.out,←HF.out];rfl,rfl⟩
 have HV2:Hid (D4 (r+1) v=(v:Int)):=by unfold Hid;rw [HB.out,if_neg (fun h=>hlt h.2)]
 have hsh2:((v:Int)/2^r==0)=false:=by rw [hsh',decide_eq_false hlt]
 clear hsh' HB hlt hv HF
 go_enter Tryz.func121,Tryz.ntmps121
 go_wp2_with fail
 go_ret2
 exact ⟨by rw [HV2.out];rfl,rfl⟩
def JC(s:Int×Int×Bool):Int×Int×Bool:=
 if s.2.2=true∧s.2.1=7 then (s.1+1,s.2.1,false)
 else if s.2.2=true∧s.1=0 then (s.1,s.2.1+1,false)
 else if s.2.2=true then (s.1-1,s.2.1+1,true)
 else if s.1=7 then (s.1,s.2.1+1,true)
 else if s.2.1=0 then (s.1+1,s.2.1,true)
 else (s.1+1,s.2.1-1,false)
def V7:Nat→Int×Int×Bool
 | 0=>(0,0,true)
 | k+1=>JC (V7 k)
def zn(k:Nat):Nat:=(8*(V7 k).1+(V7 k).2.1).toNat
def Qx:List Nat:=(List.range 64).map zn
def zi:List Int:=Qx.map fun (n:Nat)=>(n:Int)
theorem eX:∀k,k<64→0≤(V7 k).1∧(V7 k).1≤7∧0≤(V7 k).2.1∧(V7 k).2.1≤7:=by decide+kernel
def zl(k:Nat):List Int:=zi.take k++List.replicate (64-k) 0
theorem eT:∀k,k<65→(zl k).length=64:=by decide+kernel
theorem eU:∀k,k<64→(zl k).set k (8*(V7 k).1+(V7 k).2.1)=zl (k+1):=by decide+kernel
theorem eS:zl 64=zi:=by decide+kernel
theorem Yk:zi.length=64:=by decide+kernel
theorem MP(w:World):Calls Tryz.prog 99 #[] w fun e w'=>e= .returned (.agg (iv zi))∧Af w w':=by
 go_enter Tryz.func99,Tryz.ntmps99
 go_wp2_with fail
 go_loopg [1,2,3,5] 64 (fun gk rv cv uv xv wr=>∃(i:Nat) (r c:Int) (u:Bool),gk+i=64∧xv= .int .i64 i∧rv= .int .i64 r∧cv= .int .i64 c∧uv= .bool u∧Hid (V7 i=(r,c,u))∧DR wr w.heap.size (zl i)∧Af w wr)
 case atStart=>exact ⟨0,0,0,true,rfl,rfl,rfl,rfl,rfl,rfl,DR.new w (List.replicate 64 0) 25,(Af.refl w).alloc _⟩
 case round=>
  obtain ⟨i,r,c,u,hi,rfl,rfl,rfl,rfl,hst,hrow,hE⟩:=hrel
  by_cases hlt:i<64
  ·have hb:=eX i hlt
   rw [hst.out] at hb
   dsimp only at hb
   obtain ⟨hb1,hb2,hb3,hb4⟩:=hb
   have hcell:=hrow.cell i (by rw [eT i (by omega)];exact hlt)
   have hfree:=hrow.free i
   have hset:=eU i hlt
   rw [hst.out] at hset
   have hrow2:=hrow.set i (8*r+c)
   rw [hset] at hrow2
   have hE2:Af w (wr.setCell ⟨w.heap.size,i,none⟩ (.int .i64 (8*r+c))):=hE.setCell (Nat.le_refl _) _
   have hs:Hid (V7 (i+1)=JC (r,c,u)):=by unfold Hid;rw [←hst.out];rfl
   clear hset hst
   have fin:∀(r' c':Int)(u':Bool),JC (r,c,u)=(r',c',u')→Hid (V7 (i+1)=(r',c',u')):=fun r' c' u' h=>by rw [←h];exact hs
   clear hs
   have FIN:=AD fin
   clear fin
   have hi':gk-1+(i+1)=64:=by omega
   have HI:=AD hi'
   clear hi'
   have HR:=AD hrow2
   have HE:=AD hE2
   clear hrow2 hE2
   cases u
   ·by_cases h7:r=7
    ·subst h7
     go_wp2_with fail
     go_roundg (gk-1)
     case measure=>omega
     case rel=>exact ⟨i+1,_,_,_,HI.out,by go_num,rfl,rfl,rfl,FIN.out _ _ _ (by simp [JC]),HR.out,HE.out⟩
    by_cases h0:c=0
    ·subst h0
     go_wp2_with fail
     go_roundg (gk-1)
     case measure=>omega
     case rel=>exact ⟨i+1,_,_,_,HI.out,by go_num,rfl,rfl,rfl,FIN.out _ _ _ (by simp [JC];omega),by simpa using HR.out,by simpa using HE.out⟩
    go_wp2_with fail
    go_roundg (gk-1)
    case measure=>omega
    case rel=>exact ⟨i+1,_,_,_,HI.out,by go_num,rfl,rfl,rfl,FIN.out _ _ _ (by simp [JC,h7,h0]),HR.out,HE.out⟩
   by_cases h7:c=7
   ·subst h7
    go_wp2_with fail
    go_roundg (gk-1)
    case measure=>omega
    case rel=>exact ⟨i+1,_,_,_,HI.out,by go_num,rfl,rfl,rfl,FIN.out _ _ _ (by simp [JC]),HR.out,HE.out⟩
   by_cases h0:r=0
   ·subst h0
    go_wp2_with fail
    go_roundg (gk-1)
    case measure=>omega
    case rel=>exact ⟨i+1,_,_,_,HI.out,by go_num,rfl,rfl,rfl,FIN.out _ _ _ (by simp [JC];omega),by simpa using HR.out,by simpa using HE.out⟩
   go_wp2_with fail
   go_roundg (gk-1)
   case measure=>omega
   case rel=>exact ⟨i+1,_,_,_,HI.out,by go_num,rfl,rfl,rfl,FIN.out _ _ _ (by simp [JC,h7,h0]),HR.out,HE.out⟩
  obtain rfl:i=64:=by omega
  rw [eS] at hrow
  obtain ⟨t,hrow⟩:=hrow
  have hself:=setRow_self wr w.heap.size _ t _ hrow
  have hsz:(Tryz.prog.info? 25).map (·.size)=some (iv zi).size:=by rw [EH,Yk];kernel_rfl
  have HS:=AD hsz
  have HSelf:=AD hself
  clear hsz hself
  have hh:=AD hrow
  clear hrow
  go_wp2_with (first
   | refine wpList_load_row rfl 25 _ rfl w.heap.size rfl t (iv zi) (0,0) _ hh.out Tryz.underlying25 rfl HS.out ?_|(refine wpList_store_row rfl 25 _ _ rfl w.heap.size (iv zi) rfl rfl t (iv zi) hh.out HS.out rfl (LU _) ?_;rw [HSelf.out]))
  refine bodyPost_ret (results_cell_row rfl _ wr w.heap.size t (iv zi) (0,0) _ rfl hh.out Tryz.underlying25 rfl HS.out) rfl ?_
  exact ⟨rfl,hE⟩
theorem Yj(i:Nat)(h:i<64):(iv zi)[i]? =some (.int .i64 (zn i:Int)):=by
 rw [GH zi i (by rw [Yk];exact h)]
 congr 2
 simp [AJ,zi,Qx,List.getD,List.getElem?_map,List.getElem?_range h]
theorem KJ:∀i,i<64→zn i<64:=by decide+kernel
theorem Ym(i:Nat)(h:i<64):(zn i:Int)<64:=by have:=KJ i h;omega
def EQ(l:List Int):List Int:=Qx.map fun n=>AJ l n
theorem Yn:Qx.length=64:=by decide+kernel
theorem Bx(l:List Int):(EQ l).length=64:=by rw [EQ,List.length_map,Yn]
theorem Fv(l:List Int)(i:Nat)(h:i<64):AJ (EQ l) i=AJ l (zn i):=by
 simp [AJ,EQ,Qx,List.getD,List.getElem?_map,List.getElem?_range h]
theorem T9(w:World)(l:List Int)(hl:l.length=64):Calls Tryz.prog 65 #[.agg (iv l)] w fun e w'=>e= .returned (.agg (iv (EQ l)))∧Af w w':=by
 go_enter Tryz.func65,Tryz.ntmps65
 go_wp2_with fail
 refine (MP _).mono ?_
 rintro e w1 ⟨rfl,hE1⟩
 have hb:DR w1 w.heap.size l:=((DR.new w l 26).alloc _).ext hE1
 have ho:DR w1 (w.heap.size+1) (DO (EQ l) 0):=by
  rw [N4,Bx]
  have h:=(DR.new (w.alloc (.cells (iv l) 26)) (List.replicate 64 0) 26).ext hE1
  simpa using h
 have hE:Af w w1:=(((Af.refl w).alloc _).alloc _).trans hE1
 clear hE1
 go_wp2_with fail
 go_loopg [6] 64 (fun gk xv wr=>∃(i:Nat),gk+i=64∧xv= .int .i64 i∧DR wr w.heap.size l∧DR wr (w.heap.size+1) (DO (EQ l) i)∧Af w wr)
 case atStart=>exact ⟨0,rfl,rfl,hb,ho,hE⟩
 case round=>
  clear hb ho hE
  obtain ⟨i,hi,rfl,hb,ho,hE⟩:=hrel
  by_cases hlt:i<64
  ·have hz:=Yj i hlt
   have hzl:=Ym i hlt
   have hzl':=KJ i hlt
   have hcell:=hb.cell (zn i) (by omega)
   have hcell2:=ho.cell i (by rw [Ps _ _ (by rw [Bx];omega),Bx];exact hlt)
   have hfree:=ho.free i
   have ho2:=ho.set i (AJ (EQ l) i)
   rw [Pt _ _ (by rw [Bx];exact hlt),Fv _ _ hlt] at ho2
   have HB:=AD (hb.setOther ⟨w.heap.size+1,i,none⟩ (.int .i64 (AJ l (zn i))) (by simp))
   have HO:=AD ho2
   have HE:=AD (hE.setCell (a:=⟨w.heap.size+1,i,none⟩) (by simp) (.int .i64 (AJ l (zn i))))
   have hi':gk-1+(i+1)=64:=by omega
   have HI:=AD hi'
   clear hi' ho2
   go_wp2_with fail
   go_roundg (gk-1)
   case measure=>omega
   case rel=>exact ⟨i+1,HI.out,by go_num,HB.out,HO.out,HE.out⟩
  obtain rfl:i=64:=by omega
  have ho':DR wr (w.heap.size+1) (EQ l):=by have h:=Pr (EQ l);rw [Bx] at h;rw [h] at ho;exact ho
  clear ho
  obtain ⟨t,ho⟩:=ho'
  have HSelf:=AD (setRow_self wr (w.heap.size+1) _ t _ ho)
  have HS:=AD (show (Tryz.prog.info? 26).map (·.size)=some (iv (EQ l)).size by rw [EH,Bx];kernel_rfl)
  have hh:=AD ho
  clear ho
  go_wp2_with (first
   | refine wpList_load_row rfl 26 _ rfl (w.heap.size+1) rfl t (iv (EQ l)) (0,0) _ hh.out Tryz.underlying26 rfl HS.out ?_|(refine wpList_store_row rfl 26 _ _ rfl (w.heap.size+1) (iv (EQ l)) rfl rfl t (iv (EQ l)) hh.out HS.out rfl (LU _) ?_;rw [HSelf.out]))
  refine bodyPost_ret (results_cell_row rfl _ wr (w.heap.size+1) t (iv (EQ l)) (0,0) _ rfl hh.out Tryz.underlying26 rfl HS.out) rfl ?_
  exact ⟨rfl,hE⟩
def bh(l:List Int)(k:Nat):List Int:=(List.range k).foldl (fun acc i=>acc.set (zn i) (AJ l i)) (List.replicate 64 0)
def CI(l:List Int):List Int:=bh l 64
theorem MM(l:List Int)(k:Nat):bh l (k+1)=(bh l k).set (zn k) (AJ l k):=by
 simp [bh,List.range_succ,List.foldl_append]
theorem O1(l:List Int)(k:Nat):(bh l k).length=64:=by
 induction k with
 | zero=>rfl
 | succ k ih=>rw [MM,List.length_set,ih]
theorem Do(l:List Int):(CI l).length=64:=O1 l 64
theorem eV:∀i,i<64→∀j,j<64→zn i=zn j→i=j:=by decide+kernel
theorem T8:∀j,j<64→Qx.idxOf j<64∧zn (Qx.idxOf j)=j:=by decide+kernel
theorem O0(l:List Int)(k:Nat)(hk:k≤64)(i:Nat)(hi:i<k):AJ (bh l k) (zn i)=AJ l i:=by
 induction k with
 | zero=>omega
 | succ k ih=>
   rw [MM]
   by_cases h:i=k
   ·subst h
    have hlt:zn i<(bh l i).length:=by rw [O1];exact KJ i (by omega)
    simp [AJ,List.getD,hlt]
   have hne:¬zn k=zn i:=fun e=>h (eV k (by omega) i (by omega) e).symm
   have:=ih (by omega) (by omega)
   simp only [AJ,List.getD,List.getElem?_set,if_neg hne] at this⊢
   exact this
theorem LX(l m:List Int)(hl:l.length=64)(hm:m.length=64)(h:∀i,i<64→AJ l i=AJ m i):l=m:=by
 apply List.ext_getElem (by omega)
 intro i h1 h2
 have:=h i (by omega)
 simpa [AJ,List.getD,List.getElem?_eq_getElem h1,List.getElem?_eq_getElem h2] using this
theorem Jo(l:List Int)(hl:l.length=64):EQ (CI l)=l:=
 LX _ _ (Bx _) hl fun i hi=>by rw [Fv _ i hi];exact O0 l 64 (by omega) i hi
theorem No(l:List Int)(hl:l.length=64):CI (EQ l)=l:=
 LX _ _ (Do _) hl fun j hj=>by
  obtain ⟨h1,h2⟩:=T8 j hj
  have h3:=O0 (EQ l) 64 (by omega) _ h1
  rw [Fv _ _ h1,h2] at h3
  exact h3
theorem Jn(w:World)(l:List Int)(hl:l.length=64):Calls Tryz.prog 67 #[.agg (iv l)] w fun e w'=>e= .returned (.agg (iv (CI l)))∧Af w w':=by
 go_enter Tryz.func67,Tryz.ntmps67
 go_wp2_with fail
 refine (MP _).mono ?_
 rintro e w1 ⟨rfl,hE1⟩
 have hb:DR w1 w.heap.size l:=((DR.new w l 26).alloc _).ext hE1
 have ho:DR w1 (w.heap.size+1) (bh l 0):=by
  have h:=(DR.new (w.alloc (.cells (iv l) 26)) (List.replicate 64 0) 26).ext hE1
  have e:(w.alloc (.cells (iv l) 26)).heap.size=w.heap.size+1:=by simp
  rw [e] at h
  exact h
 have hE:Af w w1:=(((Af.refl w).alloc _).alloc _).trans hE1
 clear hE1
 go_wp2_with fail
 go_loopg [6] 64 (fun gk xv wr=>∃(i:Nat),gk+i=64∧xv= .int .i64 i∧DR wr w.heap.size l∧DR wr (w.heap.size+1) (bh l i)∧Af w wr)
 case atStart=>exact ⟨0,rfl,rfl,hb,ho,hE⟩
 case round=>
  clear hb ho hE
  obtain ⟨i,hi,rfl,hb,ho,hE⟩:=hrel
  by_cases hlt:i<64
  ·have hz:=Yj i hlt
   have hzl:=Ym i hlt
   have hzl':=KJ i hlt
   have hcell:=hb.cell i (by omega)
   have hcell2:=ho.cell (zn i) (by rw [O1];exact hzl')
   have hfree:=ho.free (zn i)
   have ho2:=ho.set (zn i) (AJ l i)
   rw [←MM] at ho2
   have HB:=AD (hb.setOther ⟨w.heap.size+1,zn i,none⟩ (.int .i64 (AJ l i)) (by simp))
   have HO:=AD ho2
   have HE:=AD (hE.setCell (a:=⟨w.heap.size+1,zn i,none⟩) (by simp) (.int .i64 (AJ l i)))
   have hi':gk-1+(i+1)=64:=by omega
   have HI:=AD hi'
   clear hi' ho2
   go_wp2_with fail
   go_roundg (gk-1)
   case measure=>omega
   case rel=>exact ⟨i+1,HI.out,by go_num,HB.out,HO.out,HE.out⟩
  obtain rfl:i=64:=by omega
  obtain ⟨t,ho⟩:=ho
  have ho':wr.heap[w.heap.size+1]? =some (.cells (iv (CI l)) t (0,0)):=ho
  have HSelf:=AD (setRow_self wr (w.heap.size+1) _ t _ ho')
  have HS:=AD (show (Tryz.prog.info? 26).map (·.size)=some (iv (CI l)).size by rw [EH,Do];kernel_rfl)
  have hh:=AD ho'
  clear ho ho'
  go_wp2_with (first
   | refine wpList_load_row rfl 26 _ rfl (w.heap.size+1) rfl t (iv (CI l)) (0,0) _ hh.out Tryz.underlying26 rfl HS.out ?_|(refine wpList_store_row rfl 26 _ _ rfl (w.heap.size+1) (iv (CI l)) rfl rfl t (iv (CI l)) hh.out HS.out rfl (LU _) ?_;rw [HSelf.out]))
  refine bodyPost_ret (results_cell_row rfl _ wr (w.heap.size+1) t (iv (CI l)) (0,0) _ rfl hh.out Tryz.underlying26 rfl HS.out) rfl ?_
  exact ⟨rfl,hE⟩
end Go.Proofs.YtohacgmhmbijmaaGreatDoor
namespace Go.Proofs.YtohacgmhmbijmaaGreatDoor
attribute [local irreducible] Region.wanted
set_option linter.unusedVariables false
set_option maxRecDepth 100000
set_option maxHeartbeats 8000000
abbrev CO:=Int×Int×Int
def Ep(l:List CO):List Int:=l.flatMap fun x=>[x.1,x.2.1,x.2.2]
theorem aF(l m:List CO):Ep (l++m)=Ep l++Ep m:=by simp [Ep]
theorem LM(l:List CO)(x:CO):Ep (l++[x])=Ep l++[x.1,x.2.1,x.2.2]:=by simp [Ep]
theorem TA:∀(l:List CO)(k:Nat)(x:CO),l[k]? =some x→((Ep l).drop (k*3)).take 3=[x.1,x.2.1,x.2.2]
 | [],k,x,h=>by simp at h
 | y::l,0,x,h=>by
   obtain rfl:y=x:=by simpa using h
   simp [Ep]
 | y::l,k+1,x,h=>by
   have:=TA l k x (by simpa using h)
   rw [show (k+1)*3=k*3+3 by omega]
   simp only [Ep,List.flatMap_cons] at*
   rw [List.drop_append,List.drop_of_length_le (by simp)]
   simpa using this
theorem N7:∀{l m:List CO},Ep l=Ep m→l=m
 | [],[],_=>rfl
 | [],y::m,h=>by simp [Ep] at h
 | x::l,[],h=>by simp [Ep] at h
 | x::l,y::m,h=>by
   simp only [Ep,List.flatMap_cons,List.cons_append,List.nil_append,List.cons.injEq] at h
   obtain ⟨h1,h2,h3,h4⟩:=h
   have:=N7 (l:=l) (m:=m) h4
   rw [this]
   congr 1
   exact Prod.ext h1 (Prod.ext h2 h3)
def Hh(r:Nat)(n:Int):CO:=(((r*16+sz n:Nat):Int),(sz n:Int),sv n)
def FN:CO:=(240,0,0)
def aB:CO:=(0,0,0)
def ID:Nat→List Int→List CO
 | r,[]=>if 0<r then [aB] else []
 | r,n::l=>if n=0 then ID (r+1) l else List.replicate (r/16) FN++(Hh (r%16) n::ID 0 l)
def BY(before:Int)(z:List Int):List CO:=Hh 0 (AJ z 0-before)::ID 0 (z.drop 1)
theorem Ts(n:Int)(h: -2048<n∧n<2048):sz n≤11:=Ka _ 11 (by omega)
theorem eK(n:Int)(h:n≠0):1≤sz n:=by
 obtain ⟨_,h2⟩:=Gb n.natAbs
 exact (h2 (by omega)).1
theorem bR:sz 0=0:=by simp [sz,JR]
theorem bO:sv 0=0:=by simp [sv]
theorem Oj:∀(l:List Int)(r:Nat),(ID r l).length≤r+l.length
 | [],r=>by
   rw [ID];split<;>simp
   omega
 | n::l,r=>by
   rw [ID]
   split
   ·have:=Oj l (r+1);simp only [List.length_cons];omega
   have:=Oj l 0
   simp only [List.length_append,List.length_replicate,List.length_cons]
   omega
theorem MD(before:Int)(z:List Int)(h:z.length=64):1≤(BY before z).length∧(BY before z).length≤64:=by
 have:=Oj (z.drop 1) 0
 simp only [BY,List.length_cons,List.length_drop] at*
 omega
end Go.Proofs.YtohacgmhmbijmaaGreatDoor
