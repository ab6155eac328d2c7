/- What the laws OwnMemory need, part 10. -/
import Derived.Test.YtkcbhcajfcfmmaaDoorBaseOZ2
import Derived.Test.YtkcbhcajfcfmmaaDoorBaseOZ4
import Derived.Test.YtkcbhcajfcfmmaaDoorBaseOZ9
namespace Go.Proofs.YtkcbhcajfcfmmaaDoor
attribute [local irreducible] Region.wanted
open Go.ChangeShapes Go.WideShapes Go.ChangeAt Go.RowKit Go.Deep
set_option linter.unusedVariables false
set_option maxRecDepth 100000
set_option maxHeartbeats 8000000
structure Ba(p:Prop):Prop where
 out:p
def f0:Aj:=⟨0,0,0,List.replicate 64 0,List.replicate 16 0,[],List.replicate 16 0,[],0,[]⟩
def fz:Value:=fv f0 (.slice none 0 0) (.slice none 0 0) (.slice none 0 0)
theorem KF(w:World):(Instr.build 32 #[]).run Tryd.prog w= .ok fz w:=by kernel_rfl
theorem KG(m0 m1 m2 m5:Int)(w:World):(Instr.build 32 #[(0, .int .i64 m0),(1, .int .i64 m1),(2, .int .i64 m2),(5, .int .i64 m5)]).run Tryd.prog w= .ok (fv ⟨m0,m1,m2,List.replicate 64 0,List.replicate 16 0,[],List.replicate 16 0,[],m5,[]⟩ (.slice none 0 0) (.slice none 0 0) (.slice none 0 0)) w:=by kernel_rfl
def rQ(l:List Int)(k:Nat):List Int:=(List.range k).map fun i=>AF l (6+i)
theorem Mb(l:List Int)(k:Nat)(h:k<64):(rQ l k++List.replicate (64-k) 0).set k (AF l (6+k))=rQ l (k+1)++List.replicate (64-(k+1)) 0:=by
 obtain ⟨m,hm⟩:∃m,64-k=m+1:=⟨64-k-1,by omega⟩
 have hl:(rQ l k).length=k:=by simp [rQ]
 rw [hm,show 64-(k+1)=m by omega,List.set_append_right _ _ (by omega),hl,Nat.sub_self,List.replicate_succ,List.set_cons_zero]
 simp [rQ,List.range_succ]
abbrev gp(W H p:Int)(Q C1:List Int)(v1:Value)(C2:List Int)(v2:Value)(ev:Int)(vd:Value):List AJ:=[.val (.int .i64 W), .val (.int .i64 H), .val (.int .i64 p), .ints Q, .ints C1, .val v1, .ints C2, .val v2, .val (.int .i64 ev), .val vd]
theorem Ji{W H p ev:Int}{Q Q' C1 C2:List Int}{v1 v2 vd:Value}(hQ:Ag Q 64)(hQ':Ag Q' 64):JD [.ints Q'] (gp W H p Q C1 v1 C2 v2 ev vd) 3 (gp W H p Q' C1 v1 C2 v2 ev vd):=
 .skipV (.skipV (.skipV (.head (B:=[.ints Q]) (by simp [AA,AJ.cells,hQ.out,hQ'.out]))))
theorem Jh{W H p ev:Int}{Q C1 C C2:List Int}{v1 v v2 vd:Value}(hQ:Ag Q 64)(hC1:Ag C1 16)(hC:Ag C 16):JD [.ints C, .val v] (gp W H p Q C1 v1 C2 v2 ev vd) 67 (gp W H p Q C v C2 v2 ev vd):=
 .skipV (.skipV (.skipV (.skipI hQ (by decide) rfl (.head (B:=[.ints C1, .val v1]) (by simp [AA,AJ.cells,hC1.out,hC.out])))))
theorem Ko{W H p ev:Int}{Q C1 C C2:List Int}{v1 v v2 vd:Value}(hQ:Ag Q 64)(hC1:Ag C1 16)(hC2:Ag C2 16)(hC:Ag C 16):JD [.ints C, .val v] (gp W H p Q C1 v1 C2 v2 ev vd) 84 (gp W H p Q C1 v1 C v ev vd):=
 .skipV (.skipV (.skipV (.skipI hQ (by decide) rfl (.skipI hC1 (by decide) rfl (.skipV (.head (B:=[.ints C2, .val v2]) (by simp [AA,AJ.cells,hC2.out,hC.out])))))))
def Iz(l:List Int):Nat:=(rA l 70 16).toNat
def LA(l:List Int):Nat:=(rA l (102+Iz l) 16).toNat
def Lc(l:List Int):Nat:=102+Iz l+32+LA l
def BR(l:List Int):Aj:=⟨AF l 2,AF l 3,AF l 4,Cc (rQ l 64),EN l 70 16,rS l 102 (Iz l),EN l (102+Iz l) 16,rS l (102+Iz l+32) (LA l),AF l 5,(l.drop (Lc l)).map Int.toNat⟩
def Bo(l:List Int):Int:=if 91000<l.length then 2 else if l.length<Lc l then 3 else if BB (BR l)=0∧CN (BR l)=l then 0 else 4
theorem Gj{C:List Int}(h:∀k,k<16→0≤AF C k∧AF C k≤256):∀k,k≤16→∀x∈cb C k,0≤x∧x<256
 | 0,_,x,hx=>by simp [cb] at hx
 | k+1,hk,x,hx=>by
   rw [cb,List.mem_append] at hx
   rcases hx with hx|hx
   ·exact Gj h k (by omega) x hx
   have:=h k (by omega)
   simp only [List.mem_cons,List.not_mem_nil,or_false] at hx
   rcases hx with rfl|rfl<;>omega
theorem E4{C S:List Int}(h:A7 C S=0):∀x∈GY C S,0≤x∧x<256:=fun x hx=>by
 have k:=Bf h
 rw [GY,List.mem_append] at hx
 rcases hx with hx|hx
 ·exact Gj k.1 16 (Nat.le_refl _) x hx
 exact k.2.2.2.1 x hx
theorem G9{f:Aj}(h:BB f=0)(hQ:f.quant.length=64)(hd:∀x∈f.data,x<256):∀x∈CN f,0≤x∧x<256:=fun x hx=>by
 obtain ⟨⟨h1,h2,h3,h4⟩,hq,ht1,ht2,_⟩:=Ek h
 simp only [CN,Fj,Kw,List.mem_append,List.mem_cons,List.not_mem_nil,or_false] at hx
 rcases hx with ((((rfl|rfl)|(rfl|rfl|rfl|rfl))|hx)|(hx|hx))|hx
 ·omega
 ·omega
 ·omega
 ·omega
 ·omega
 ·omega
 ·obtain ⟨i,hi,rfl⟩:=List.getElem_of_mem hx
  have hi2:i<64:=by rw [Bq] at hi;exact hi
  have:=K7 hQ hq i hi2
  have e:AF (FJ f.quant) i=(FJ f.quant)[i]'hi:=by unfold AF;rw [List.getD_eq_getElem?_getD,List.getElem?_eq_getElem hi];rfl
  omega
 ·exact E4 ht1 x hx
 ·exact E4 ht2 x hx
 obtain ⟨y,hy,rfl⟩:=List.mem_map.1 hx
 have:=hd y hy
 omega
theorem JK{l:List Int}(h:∀x∈l,0≤x∧x<256)(i:Nat)(hi:i<l.length):0≤AF l i∧AF l i<256:=DQ h i hi
theorem JJ{l:List Int}(h:∀i,i<l.length→0≤AF l i∧AF l i<256)(x:Int)(hx:x∈l):0≤x∧x<256:=by
 obtain ⟨i,hi,rfl⟩:=List.getElem_of_mem hx
 have:=h i hi
 have e:AF l i=l[i]:=by simp [AF,List.getD,hi]
 omega
theorem IY{l:List Int}(h:∀x∈l,0≤x∧x<256):((l.map Int.toNat).map fun (x:Nat)=>(x:Int))=l:=by
 rw [List.map_map]
 conv=>rhs;rw [←List.map_id l]
 refine List.map_congr_left fun x hx=>?_
 have:=h x hx
 simp only [Function.comp,id]
 omega
theorem Oo(C:List Int):∀k,(cb C k).length=2*k
 | 0=>rfl
 | k+1=>by rw [cb,List.length_append,Oo C k];simp;omega
theorem MZ(f:Aj):(CN f).length=134+f.s1.length+f.s2.length+f.data.length:=by
 simp only [CN,Fj,Kw,GY,Al,List.length_append,List.length_map,Bq,Oo,List.length_cons,List.length_nil]
 omega
theorem Kl{l:List Int}{j1 j2:Nat}(h1:(j1:Int)≤rA l 70 16)(k1:102+j1≤l.length→(j1:Int)=rA l 70 16)(h2:(j2:Int)≤rA l (102+j1) 16)(hs:l.length<102+j1+32+j2):l.length<Lc l:=by
 by_cases h:l.length<Lc l
 ·exact h
 exfalso
 have e:Lc l=102+Iz l+32+LA l:=rfl
 have e1:Iz l=(rA l 70 16).toNat:=rfl
 have hj:(j1:Int)=rA l 70 16:=k1 (by omega)
 have e3:Iz l=j1:=by omega
 have e2:LA l=(rA l (102+j1) 16).toNat:=by rw [←e3];rfl
 omega
theorem Ld{l:List Int}{j1 j2:Nat}(k1:102+j1≤l.length→(j1:Int)=rA l 70 16)(k2:102+j1+32+j2≤l.length→(j2:Int)=rA l (102+j1) 16)(hs:102+j1+32+j2≤l.length):Iz l=j1∧LA l=j2∧Lc l=102+j1+32+j2:=by
 have e1:Iz l=(rA l 70 16).toNat:=rfl
 have hj:=k1 (by omega)
 have hj2:=k2 hs
 have e3:Iz l=j1:=by omega
 have e2:LA l=(rA l (102+j1) 16).toNat:=by rw [←e3];rfl
 have e4:LA l=j2:=by omega
 refine ⟨e3,e4,?_⟩
 rw [Lc,e3,e4]
theorem Ed{w:World}{ad:Option Addr}{n c:Nat}{xs:List Int}(hv:Sl w 1 (.slice ad n c) n (xs.map (Value.int .u8))):Lib.BytesIn w ad n xs:=fun hn=>by
 obtain ⟨hl,a1,c1,e1,hnc,hcm,hor⟩:=hv
 cases e1
 have hln:xs.length=n:=by simpa using hl
 rcases hor with h0|⟨b,off,h,hc⟩
 ·omega
 refine ⟨b,off,h,fun i hi=>?_⟩
 rw [hc i (by omega)]
 simp [List.getD,hln,hi]
theorem H6{xs ys:List Int}(hx:∀i,i<xs.length→0≤AF xs i∧AF xs i<256)(hy:∀i,i<ys.length→0≤AF ys i∧AF ys i<256):(Lib.bytesOf xs==Lib.bytesOf ys)=decide (xs=ys):=by
 have key:Lib.bytesOf xs=Lib.bytesOf ys↔xs=ys:=by
  constructor
  ·intro h
   have hl:xs.length=ys.length:=by have:=congrArg List.length h;simpa [Lib.bytesOf] using this
   refine KZ hl fun i hi=>?_
   have h1:=hx i hi
   have h2:=hy i (by omega)
   have h3:(Lib.bytesOf xs)[i]? =(Lib.bytesOf ys)[i]? :=by rw [h]
   have hi2:i<ys.length:=by omega
   simp only [Lib.bytesOf,List.getElem?_map,List.getElem?_eq_getElem hi,List.getElem?_eq_getElem hi2,Option.map_some,Option.some.injEq] at h3
   have e1:AF xs i=xs[i]:=by simp [AF,List.getD,hi]
   have e2:AF ys i=ys[i]:=by simp [AF,List.getD,hi2]
   rw [←e1,←e2] at h3
   have h4:=congrArg UInt8.toNat h3
   simp only [UInt8.toNat_ofNat'] at h4
   omega
  rintro rfl;rfl
 by_cases h:xs=ys
 ·rw [decide_eq_true h,beq_iff_eq];exact key.2 h
 rw [decide_eq_false h,beq_eq_false_iff_ne];exact fun e=>h (key.1 e)
theorem Ej(w:World)(p1 p2:Option Addr)(n c m d:Nat)(xs ys:List Int)(h1:Sl w 1 (.slice p1 n c) n (xs.map (Value.int .u8)))(h2:Sl w 1 (.slice p2 m d) m (ys.map (Value.int .u8)))(hx:∀i,i<xs.length→0≤AF xs i∧AF xs i<256)(hy:∀i,i<ys.length→0≤AF ys i∧AF ys i<256):
 Calls Tryd.prog 22 #[.slice p1 n c, .slice p2 m d] w fun e w'=>e= .returned (.bool (decide (xs=ys)))∧w=w':=
 (Tryd.bytes_Equal_all p1 p2 n c m d xs ys w (by have:=h1.1;simpa using this) (by have:=h2.1;simpa using this) (Ed h1) (Ed h2)).mono fun e w' ⟨k1,k2⟩=>⟨by rw [k1,H6 hx hy],k2.symm⟩
theorem IE(w0:World)(ad:Option Addr)(n c:Nat)(xs:List Int)(hv:Sl w0 1 (.slice ad n c) n (xs.map (Value.int .u8)))(hn:n≤140737488355328):
 Calls Tryd.prog 21 #[.slice ad n c] w0 fun e w=>∃(a':Option Addr) (c':Nat),e= .returned (.slice a' n c')∧St w0 w [own 5 1 a' n c' (xs.map (Value.int .u8))]:=by
 obtain ⟨hl,a1,c1,e1,hnc,hcm,hor⟩:=hv
 cases e1
 have hln:xs.length=n:=by simpa using hl
 cases ad with
 | none=>
   rcases hor with h0|⟨b,off,h,_⟩
   ·have h0':n=0:=h0
    subst h0'
    refine (Tryd.bytes_Clone_nil 0 c w0).mono fun e w' ⟨k1,k2⟩=>⟨none,0,k1,?_⟩
    subst k2
    rw [List.length_eq_zero_iff.1 hln]
    exact (St.start w').nil 5 1
   cases h
 | some a=>
   refine (Tryd.bytes_Clone_at a n c xs w0 hln hn (fun i hi=>?_)).mono fun e w' ⟨v',k1,k2,k3,k4⟩=>?_
   ·rcases hor with h0|⟨b,off,h,hc⟩
    ·omega
    cases h
    rw [Addr.add_mid,hc i (by omega)]
    simp [List.getD,hln,hi]
   rcases k2.2 with ⟨h1,h2⟩|⟨g,cap,cur,h1,h2,h3,h4,h5,h6,h7⟩
   ·exact absurd h1 k3
   subst h1
   refine ⟨some ⟨g,0,none⟩,cap,k1,k4,[g],by simp,fun b hb=>by rw [List.mem_singleton] at hb;omega,[g],[],rfl,⟨rfl,k2.1, .inr ⟨g,cap,cur,rfl,Nat.zero_le _,h3,h4,h5,h6,h7⟩⟩,rfl⟩
theorem HJ(w0:World)(a:Option Addr)(n c:Nat)(l:List Int)(hv:Sl w0 1 (.slice a n c) n (l.map (Value.int .u8)))(hn:91000<n)(hn2:n≤9223372036854775807):
 Calls Tryd.prog 10 #[.slice a n c] w0 fun e w=>e= .returned (.tuple #[fz, .int .i64 2])∧AX w0 w:=by
 have hS:=St.start w0
 go_enter Tryd.func10,Tryd.ntmps10
 repeat' (first
  | refine OA 12 ?_|refine X0 ?_|refine Lw ?_|refine K8 ?_|refine LM 2 ?_;clear hS;intro g2 w hS|refine J2 ?_;clear hS;intro w hS|refine AG ?_;go_step|fail)
 refine Ah (xs:=[_,_]) rfl (.cons (AE.prt hS rfl (AY (n:=103) rfl) AQ (by (repeat (first|exact BG.nil|(apply BG.ints;(case hn=>exact CM);(case h=>omega);(case hm=>rfl))|apply BG.val)))) (.cons (AE.tmp rfl) (.nil))) (by simp) rfl ?_
 exact ⟨rfl,hS.1⟩
theorem IT(w0:World)(a:Option Addr)(n c:Nat)(l:List Int)(hv:Sl w0 1 (.slice a n c) n (l.map (Value.int .u8)))(hr:Hid (∀i,i<l.length→0≤AF l i∧AF l i<256))(hn:n≤91000):
 Calls Tryd.prog 10 #[.slice a n c] w0 fun e w=>(Bo l≠0→e= .returned (.tuple #[fz, .int .i64 (Bo l)])∧AX w0 w)∧(Bo l=0→∃(a1 a2 ad:Option Addr) (c1 c2 cd:Nat),e= .returned (.tuple #[fv (BR l) (.slice a1 (Iz l) c1) (.slice a2 (LA l) c2) (.slice ad (l.length-Lc l) cd), .int .i64 0])∧
  St w0 w [own 3 1 a1 (Iz l) c1 ((BR l).s1.map (Value.int .i64)),own 3 1 a2 (LA l) c2 ((BR l).s2.map (Value.int .i64)),own 5 1 ad (l.length-Lc l) cd ((Al (BR l)).map (Value.int .u8))]):=by
 have hS:=St.start w0
 have hln:l.length=n:=by have:=hv.1;simpa using this
 go_enter Tryd.func10,Tryd.ntmps10
 repeat' (first
  | refine X0 ?_|refine Lw ?_|refine K8 ?_|(refine AU 14 ?_);(refine Av AB (V.build (vs:=[(0,_)]) rfl (MK _ _ _)) ?_;go_step)|refine LM 2 ?_;clear hS;intro g2 w hS|(refine AU 15 ?_);(refine A3 ?_;apply EV (o:=⟨some 15,_,_,_,_,_⟩) hS 54 _ rfl _ rfl;clear hS;intro g15 w hS;refine AC ?_;go_step)|refine AG ?_;go_step|fail)
 replace hS:=St.rdr_close (g:=g15) (p:=0) (l:=l) (W:=w0) (by rw [hln];rfl) hv hS
 repeat' (first
  | (refine AU 17 ?_);refine Ay (f:=18) Tryd.call18 AB ?_;refine ⟨_,(A4 _ _ _ _ g15 0 l hS AQ hr (by omega) (by omega)),?_⟩;rintro e w ⟨rfl,hS2⟩;clear hS;rename _=>hS;refine As ?_;go_step|(refine AU 19 ?_);refine Ay (f:=18) Tryd.call18 AB ?_;refine ⟨_,(A4 _ _ _ _ g15 1 l hS AQ hr (by omega) (by omega)),?_⟩;rintro e w ⟨rfl,hS2⟩;clear hS;rename _=>hS;refine As ?_;go_step|(refine AU 21 ?_);refine Ay (f:=18) Tryd.call18 AB ?_;refine ⟨_,(A4 _ _ _ _ g15 2 l hS AQ hr (by omega) (by omega)),?_⟩;rintro e w ⟨rfl,hS2⟩;clear hS;rename _=>hS;refine As ?_;go_step|(refine AU 23 ?_);refine Ay (f:=18) Tryd.call18 AB ?_;refine ⟨_,(A4 _ _ _ _ g15 3 l hS AQ hr (by omega) (by omega)),?_⟩;rintro e w ⟨rfl,hS2⟩;clear hS;rename _=>hS;refine As ?_;go_step|(refine AU 25 ?_);refine Ay (f:=18) Tryd.call18 AB ?_;refine ⟨_,(A4 _ _ _ _ g15 4 l hS AQ hr (by omega) (by omega)),?_⟩;rintro e w ⟨rfl,hS2⟩;clear hS;rename _=>hS;refine As ?_;go_step|(refine AU 27 ?_);refine Ay (f:=18) Tryd.call18 AB ?_;refine ⟨_,(A4 _ _ _ _ g15 5 l hS AQ hr (by omega) (by omega)),?_⟩;rintro e w ⟨rfl,hS2⟩;clear hS;rename _=>hS;refine As ?_;go_step|(refine AU 28 ?_);refine AP _ (V.build (vs:=[(0, .int .i64 (AF l 2)),(1, .int .i64 (AF l 3)),(2, .int .i64 (AF l 4)),(5, .int .i64 (AF l 5))]) rfl (KG _ _ _ _)) AB ?_;go_step|refine X1 ?_|refine LM 5 ?_;clear hS;intro g5 w hS|refine J2 ?_;clear hS;intro w hS|refine AG ?_;go_step|fail)
 dsimp only [CV] at hS
 have hr1:=Hc l hr.out 70 16
 go_loopg [29] 64 (fun gk kv w=>∃k:Nat,gk+k=64∧kv= .int .i64 k∧St w0 w [prt g5 [.val (.int .i64 (AF l 2)), .val (.int .i64 (AF l 3)), .val (.int .i64 (AF l 4)), .ints (rQ l k++List.replicate (64-k) 0), .ints (List.replicate 16 0), .val (.slice none 0 0), .ints (List.replicate 16 0), .val (.slice none 0 0), .val (.int .i64 (AF l 5)), .val (.slice none 0 0)],rdr w0 g15 l (6+k),
  prt g2 [.val (.int .i64 0), .val (.int .i64 0), .val (.int .i64 0), .ints (List.replicate 64 0), .ints (List.replicate 16 0), .val (.slice none 0 0), .ints (List.replicate 16 0), .val (.slice none 0 0), .val (.int .i64 0), .val (.slice none 0 0)]])
 case atStart=>exact ⟨0,rfl,rfl,by rw [show rQ l 0++List.replicate (64-0) 0=List.replicate 64 0 from rfl];exact hS.sub Ao⟩
 case round=>
  clear hS
  obtain ⟨k,hk,rfl,hS⟩:=hrel
  by_cases hlt:k<64
  ·have HS:=AD (Mb l k hlt)
   have hLen2:Ag (rQ l k++List.replicate (64-k) 0) 64:=AD (by simp [rQ];omega)
   obtain ⟨R,hR⟩:∃x,rQ l k++List.replicate (64-k) 0=x:=⟨_,rfl⟩
   rw [hR] at HS hS hLen2
   clear hR
   repeat' (first
    | (refine AU 34 ?_);refine Ay (f:=18) Tryd.call18 AB ?_;refine ⟨_,(A4 _ _ _ _ g15 (6+k) l hS AQ hr (by omega) (by omega)),?_⟩;rintro e w ⟨rfl,hS2⟩;clear hS;rename _=>hS;refine As ?_;go_step|(refine AU 36 ?_);refine AP (.pointer (some ⟨g5,k+3,none⟩)) (V.indexAr Tryd.underlying25 DC rfl rfl At.cast (by omega) (Nat.mul_one _) (Nat.add_comm 3 k)) AB ?_;go_step|refine X0 ?_|refine X3 ?_|refine NO ?_|refine Ge ?_|refine OE ?_;clear hS;intro w hS|refine AG ?_;go_step|fail)
   rw [HS.out] at hS
   go_roundg (gk-1)
   case measure=>omega
   case rel=>exact ⟨k+1,by omega,by go_num,by rw [show 6+(k+1)=6+k+1 from rfl];exact hS.sub Ao⟩
  obtain rfl:k=64:=by omega
  rw [show rQ l 64++List.replicate (64-64) 0=rQ l 64 by simp] at hS
  have hq64:(rQ l 64).length=64:=by simp [rQ]
  have hz64:=EB (rQ l 64)
  have HQ:=AD hq64
  have hLQ:Ag (rQ l 64) 64:=AD hq64
  have hLZ:Ag (Cc (rQ l 64)) 64:=AD hz64
  obtain ⟨Q0,hQ0⟩:∃x,rQ l 64=x:=⟨_,rfl⟩
  obtain ⟨Q1,hQ1⟩:∃x,Cc (rQ l 64)=x:=⟨_,rfl⟩
  rw [hQ1] at hLZ
  rw [hQ0] at hLQ hS HQ hQ1
  have HQ0:Ba (rQ l 64=Q0):=⟨hQ0⟩
  have HQ1:Ba (Cc Q0=Q1):=⟨hQ1⟩
  clear hQ0 hQ1 hq64 hz64
  have hRep:JD [.ints Q1] (gp (AF l 2) (AF l 3) (AF l 4) Q0 (List.replicate 16 0) (.slice none 0 0) (List.replicate 16 0) (.slice none 0 0) (AF l 5) (.slice none 0 0)) 3 (gp (AF l 2) (AF l 3) (AF l 4) Q1 (List.replicate 16 0) (.slice none 0 0) (List.replicate 16 0) (.slice none 0 0) (AF l 5) (.slice none 0 0)):=Ji hLQ hLZ
  have hl1:(AA [.ints Q1]).length=64:=by simp [AA,AJ.cells,hLZ.out]
  have hLn0:Ag (List.replicate 16 0) 16:=Ag.rep
  obtain ⟨C1,hC1⟩:∃x,EN l 70 16=x:=⟨_,rfl⟩
  have hLC1:Ag C1 16:=AD (by rw [←hC1];simp [EN])
  obtain ⟨A1,hA1⟩:∃x,rA l 70 16=x:=⟨_,rfl⟩
  rw [hA1] at hr1
  have HC1:Ba (EN l 70 16=C1):=⟨hC1⟩
  have HA1:Ba (rA l 70 16=A1):=⟨hA1⟩
  have ht1:∀v,(AA [.ints C1, .val v]).length=17:=fun v=>Cm C1 v hLC1
  clear hC1 hA1
  repeat' (first
   | (refine Am 19 ?_);refine An AB Tryd.call19 (J0 _ Q0 HQ.out) ?_;rintro e w ⟨rfl,hE2⟩;rw [HQ1.out];replace hS:=hS.ext hE2;clear hE2;refine As ?_;go_step|(refine AU 43 ?_);refine Ay (f:=20) Tryd.call20 AB ?_;refine ⟨_,(Ft _ _ _ _ g15 70 l hS AQ hr (by omega) (by omega)),?_⟩;rintro e w ⟨j1,sa1,sc1,rfl,hj1,hk1,hS2⟩;clear hS;rename _=>hS;rw [HC1.out];rw [HA1.out] at hj1 hk1;replace hk1:Ba _:=⟨hk1⟩;refine As ?_;go_step|(with_reducible refine Az _ (.store 25 _ _) ?_);refine A3 ?_;refine CY hS 25 _ _ rfl g5 3 rfl 64 (AY rfl) _ _ [.ints Q1] AQ (JW Q1) hRep hl1 rfl rfl ?_;clear hS;intro w hS|(with_reducible refine Az _ (.store 28 _ _) ?_);refine A3 ?_;refine CY hS 28 _ _ rfl g5 67 rfl 17 (AY rfl) _ _ [.ints C1, .val _] AQ rfl (Jh hLZ hLn0 hLC1) (ht1 _) rfl rfl ?_;clear hS;intro w hS|refine X1 ?_|refine X3 ?_|refine NO ?_|refine Nv ?_|refine OL ?_|refine Nw ?_|refine AG ?_;go_step|fail)
  obtain ⟨C2,hC2⟩:∃x,EN l (102+j1) 16=x:=⟨_,rfl⟩
  have hLC2:Ag C2 16:=AD (by rw [←hC2];simp [EN])
  have hr2:=Hc l hr.out (102+j1) 16
  obtain ⟨A2,hA2⟩:∃x,rA l (102+j1) 16=x:=⟨_,rfl⟩
  rw [hA2] at hr2
  have HC2:Ba (EN l (102+j1) 16=C2):=⟨hC2⟩
  have HA2:Ba (rA l (102+j1) 16=A2):=⟨hA2⟩
  have ht2:∀v,(AA [.ints C2, .val v]).length=17:=fun v=>Cm C2 v hLC2
  clear hC2 hA2
  rw [show 70+32+j1=102+j1 from rfl] at hS
  repeat' (first
   | (refine AU 47 ?_);refine Ay (f:=20) Tryd.call20 AB ?_;refine ⟨_,(Ft _ _ _ _ g15 (102+j1) l hS AQ hr (by omega) (by omega)),?_⟩;rintro e w ⟨j2,sa2,sc2,rfl,hj2,hk2,hS2⟩;clear hS;rename _=>hS;rw [HC2.out];rw [HA2.out] at hj2 hk2;replace hk2:Ba _:=⟨hk2⟩;refine As ?_;go_step|(with_reducible refine Az _ (.store 28 _ _) ?_);refine A3 ?_;refine CY hS 28 _ _ rfl g5 84 rfl 17 (AY rfl) _ _ [.ints C2, .val _] AQ rfl (Ko hLZ hLC1 hLn0 hLC2) (ht2 _) rfl rfl ?_;clear hS;intro w hS|refine X1 ?_|refine Nv ?_|refine OM ?_|refine AG ?_;go_step|fail)
  obtain ⟨ra,rc,rm,hrm,hrv,hS⟩:=hS.rdr_open AQ
  by_cases hsh:l.length<102+j1+32+j2
  ·have hE3:Ba (Bo l=3):=⟨by
    rw [Bo,if_neg (by omega),if_pos (Kl (HA1.out.symm▸ hj1) (by rw [HA1.out];exact hk1.out) (HA2.out.symm▸ hj2) hsh)]⟩
   rw [decide_eq_true hsh] at hS
   repeat' (first
    | refine OA 54 ?_|refine X8 ?_|refine Mw ?_|refine NQ ?_|refine Ny ?_|refine J2 ?_;clear hS;intro w hS|refine AG ?_;go_step|fail)
   refine Ah (xs:=[_,_]) rfl (.cons (AE.prt hS rfl (AY (n:=103) rfl) AQ (by (repeat (first|exact BG.nil|(apply BG.ints;(case hn=>exact CM);(case h=>omega);(case hm=>rfl))|apply BG.val)))) (.cons (AE.tmp rfl) (.nil))) (by simp) rfl ?_
   rw [hE3.out]
   exact ⟨fun _=>⟨rfl,hS.1⟩,fun h=>absurd h (by decide)⟩
  rw [decide_eq_false hsh] at hS
  obtain ⟨q1,q2,q3⟩:=Ld (by rw [HA1.out];exact hk1.out) (by rw [HA2.out];exact hk2.out) (Nat.le_of_not_lt hsh)
  repeat' (first
   | (refine Am 21 ?_);refine An AB Tryd.call21 (IE _ ra rm rc (l.drop (102+j1+32+j2)) (hrv.ext hS.1) (by omega)) ?_;rintro e w ⟨da,dc,rfl,hS2⟩;replace hS:=hS.call1 hS2;clear hS2;refine As ?_;go_step|refine X1 ?_|refine Mw ?_|refine NQ ?_|refine OO ?_|refine ON ?_|refine Ny ?_|refine OP ?_|refine Nr ?_;clear hS;intro w hS|refine AG ?_;go_step|fail)
  have hdr:∀x∈l.drop (102+j1+32+j2),0≤x∧x<256:=fun x hx=>JJ hr.out x (List.mem_of_mem_drop hx)
  have hD:=IY hdr
  obtain ⟨D,hDe⟩:∃x,(l.drop (102+j1+32+j2)).map Int.toNat=x:=⟨_,rfl⟩
  have hDlt:∀x∈D,x<256:=fun x hx=>by
   rw [←hDe] at hx
   obtain ⟨y,hy,rfl⟩:=List.mem_map.1 hx
   have:=hdr y hy
   omega
  have hDl:D.length=rm:=by rw [←hDe,hrm];simp
  obtain ⟨f1,hf1⟩:∃x:Aj,x=⟨AF l 2,AF l 3,AF l 4,Q1,C1,rS l 102 j1,C2,rS l (102+j1+32) j2,AF l 5,D⟩:=⟨_,rfl⟩
  have HF:Ba (BR l=f1):=⟨by
   rw [hf1];unfold BR;rw [q1,q2,q3,HQ0.out,HQ1.out,HC1.out,HC2.out,hDe]⟩
  have HDe:Ba (Al f1=l.drop (102+j1+32+j2)):=⟨by rw [hf1,Al,←hDe];exact hD⟩
  rw [show 70+32=102 from rfl] at hS
  have HPv:Ba (Value.agg (AA (gp (AF l 2) (AF l 3) (AF l 4) Q1 C1 (Value.slice sa1 j1 sc1) C2 (Value.slice sa2 j2 sc2) (AF l 5) (Value.slice da rm dc))).toArray=fv f1 (.slice sa1 j1 sc1) (.slice sa2 j2 sc2) (.slice da rm dc)):=⟨by rw [hf1];rfl⟩
  have e1:f1.s1=rS l 102 j1:=by rw [hf1]
  have e2:f1.s2=rS l (102+j1+32) j2:=by rw [hf1]
  have e3:f1.quant=Q1:=by rw [hf1]
  have e4:f1.c1=C1:=by rw [hf1]
  have e5:f1.c2=C2:=by rw [hf1]
  have e6:f1.data=D:=by rw [hf1]
  clear hf1 hD hDe hdr
  obtain ⟨E,hE⟩:∃x,BB f1=x:=⟨_,rfl⟩
  by_cases hE0:E=0
  case neg=>
   have hE4:Ba (Bo l=4):=⟨by
    rw [Bo,if_neg (by omega),if_neg (by omega),HF.out,if_neg (fun h=>hE0 (hE▸ h.1))]⟩
   have HPb:Ba (∀w,Sl w 1 (.slice sa1 j1 sc1) j1 ((rS l 102 j1).map (Value.int .i64))→Sl w 1 (.slice sa2 j2 sc2) j2 ((rS l (102+j1+32) j2).map (Value.int .i64))→Calls Tryd.prog 14 #[Value.agg (AA (gp (AF l 2) (AF l 3) (AF l 4) Q1 C1 (Value.slice sa1 j1 sc1) C2 (Value.slice sa2 j2 sc2) (AF l 5) (Value.slice da rm dc))).toArray] w fun e w'=>e= .returned (.tuple #[.slice none 0 0, .int .i64 E])∧AX w w'):=⟨fun w k1 k2=>HPv.out▸ Kk w f1 sa1 sa2 da j1 j2 rm sc1 sc2 dc (e3▸ hLZ) (e4▸ hLC1) (e5▸ hLC2) (e1▸ k1) (e2▸ k2) (by omega) (by omega) (by omega) (e6▸ hDl) E hE hE0⟩
   clear hE e1 e2 e3 e4 e5 e6
   repeat' (first
    | (refine Am 14 ?_);refine An AB Tryd.call14 (HPb.out _ (hS.sl AQ) (hS.sl AQ)) (Gd hS ?_);clear hS;intro w hS;go_step|refine OA 74 ?_|go_skip|refine X0 ?_|refine X5 ?_|refine J3 67 ?_ ?_<;>intro hB<;>(try exact Ar)<;>go_step|refine MG ?_|refine KD ?_|refine J2 ?_;clear hS;intro w hS|refine AG ?_;go_step|fail)
   refine Ah (xs:=[_,_]) rfl (.cons (AE.prt hS rfl (AY (n:=103) rfl) AQ (by (repeat (first|exact BG.nil|(apply BG.ints;(case hn=>exact CM);(case h=>omega);(case hm=>rfl))|apply BG.val)))) (.cons (AE.tmp rfl) (.nil))) (by simp) rfl ?_
   rw [hE4.out]
   exact ⟨fun _=>⟨rfl,hS.1⟩,fun h=>absurd h (by decide)⟩
  subst hE0
  obtain ⟨Pk,hPk⟩:∃x,CN f1=x:=⟨_,rfl⟩
  have hPb:=JK (G9 hE (e3▸ hLZ.out) (e6▸ hDlt))
  rw [hPk] at hPb
  have HPb2:=AD hPb
  have hpl:=MZ f1
  rw [hPk] at hpl
  have hl3:Pk.length≤1000000:=by
   obtain ⟨_,_,ht1,ht2,hdl⟩:=Ek hE
   have k1:=(Bf ht1).2.2.1
   have k2:=(Bf ht2).2.2.1
   omega
  have HPg:Ba (∀w,Sl w 1 (.slice sa1 j1 sc1) j1 ((rS l 102 j1).map (Value.int .i64))→Sl w 1 (.slice sa2 j2 sc2) j2 ((rS l (102+j1+32) j2).map (Value.int .i64))→Sl w 1 (.slice da rm dc) rm ((l.drop (102+j1+32+j2)).map (Value.int .u8))→Calls Tryd.prog 14 #[Value.agg (AA (gp (AF l 2) (AF l 3) (AF l 4) Q1 C1 (Value.slice sa1 j1 sc1) C2 (Value.slice sa2 j2 sc2) (AF l 5) (Value.slice da rm dc))).toArray] w fun e w'=>∃(ao:Option Addr) (co:Nat),e= .returned (.tuple #[.slice ao Pk.length co, .int .i64 0])∧St w w' [own 5 1 ao Pk.length co (Pk.map (Value.int .u8))]):=⟨fun w k1 k2 k3=>HPv.out▸ hPk▸ Iw w f1 sa1 sa2 da j1 j2 rm sc1 sc2 dc (e3▸ hLZ) (e4▸ hLC1) (e5▸ hLC2) (e1▸ k1) (e2▸ k2) (HDe.out▸ k3) hE⟩
  by_cases hEq:Pk=l
  case neg=>
   have hE4:Ba (Bo l=4):=⟨by
    rw [Bo,if_neg (by omega),if_neg (by omega),HF.out,if_neg (fun h=>hEq (hPk▸ h.2))]⟩
   have HEq:=AD (decide_eq_false hEq)
   clear hE e1 e2 e3 e4 e5 e6 hPb hPk hpl hEq
   repeat' (first
    | (refine Am 14 ?_);refine An AB Tryd.call14 (HPg.out _ (hS.sl AQ) (hS.sl AQ) (hS.sl AQ)) ?_;rintro e w ⟨ao,co,rfl,hS2⟩;replace hS:=hS.call1 hS2;clear hS2;refine As ?_;go_step|(refine Am 22 ?_);refine An AB Tryd.call22 (Ej _ ao a Pk.length co n c Pk l (hS.sl AQ) (hv.ext hS.1) HPb2.out hr.out) ?_;rintro e w' ⟨rfl,rfl⟩;rw [HEq.out];refine As ?_;go_step|refine OA 74 ?_|refine X0 ?_|refine H0 ?_|refine J3 67 ?_ ?_<;>intro hB<;>(try exact Ar)<;>go_step|refine MG ?_|refine Mx ?_|refine KD ?_|refine J2 ?_;clear hS;intro w hS|refine AG ?_;go_step|fail)
   refine Ah (xs:=[_,_]) rfl (.cons (AE.prt hS rfl (AY (n:=103) rfl) AQ (by (repeat (first|exact BG.nil|(apply BG.ints;(case hn=>exact CM);(case h=>omega);(case hm=>rfl))|apply BG.val)))) (.cons (AE.tmp rfl) (.nil))) (by simp) rfl ?_
   rw [hE4.out]
   exact ⟨fun _=>⟨rfl,hS.1⟩,fun h=>absurd h (by decide)⟩
  have hE4:Ba (Bo l=0):=⟨by
   rw [Bo,if_neg (by omega),if_neg (by omega),HF.out,if_pos ⟨hE,hPk.trans hEq⟩]⟩
  have HEq:=AD (decide_eq_true hEq)
  have E1:Ba (f1.s1=rS l 102 j1):=⟨e1⟩
  have E2:Ba (f1.s2=rS l (102+j1+32) j2):=⟨e2⟩
  clear hE e1 e2 e3 e4 e5 e6 hPb hPk hpl hEq
  repeat' (first
   | (refine Am 14 ?_);refine An AB Tryd.call14 (HPg.out _ (hS.sl AQ) (hS.sl AQ) (hS.sl AQ)) ?_;rintro e w ⟨ao,co,rfl,hS2⟩;replace hS:=hS.call1 hS2;clear hS2;refine As ?_;go_step|(refine Am 22 ?_);refine An AB Tryd.call22 (Ej _ ao a Pk.length co n c Pk l (hS.sl AQ) (hv.ext hS.1) HPb2.out hr.out) ?_;rintro e w' ⟨rfl,rfl⟩;rw [HEq.out];refine As ?_;go_step|refine X0 ?_|refine H0 ?_|refine J3 67 ?_ ?_<;>intro hB<;>(try exact Ar)<;>go_step|refine MG ?_|refine Mx ?_|refine KD ?_|refine J2 ?_;clear hS;intro w hS|refine AG ?_;go_step|fail)
  refine Ah (xs:=[_,_]) rfl (.cons (AE.prt hS rfl (AY (n:=103) rfl) AQ (by (repeat (first|exact BG.nil|(apply BG.ints;(case hn=>exact CM);(case h=>omega);(case hm=>rfl))|apply BG.val)))) (.cons (AE.tmp rfl) (.nil))) (by simp) rfl ?_
  refine ⟨fun h=>absurd hE4.out h,fun _=>⟨sa1,sa2,da,sc1,sc2,dc,?_,?_⟩⟩
  ·rw [HF.out,q1,q2,q3,←hrm,←HPv.out]
   rfl
  rw [HF.out,q1,q2,q3,←hrm,E1.out,E2.out,HDe.out]
  exact hS.sub Ao
end Go.Proofs.YtkcbhcajfcfmmaaDoor
