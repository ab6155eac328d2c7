/- What the laws RescueWhole TopTold FrameBack need, part 7. -/
import Derived.Test.YtohacgmhmbijmaaGreatDoorBaseSZ2
import Derived.Test.YtohacgmhmbijmaaGreatDoorBaseSZ3
import Derived.Test.YtohacgmhmbijmaaGreatDoorBaseSZ5
import Derived.Test.YtohacgmhmbijmaaGreatDoorBaseSZ6
import Derived.Laws.CopyRow
import Derived.Laws.IdiomCopy
namespace Go.Proofs.YtohacgmhmbijmaaGreatDoor
attribute [local irreducible] Region.wanted
open Go.RowKit
set_option linter.unusedVariables false
set_option maxRecDepth 100000
set_option maxHeartbeats 8000000
theorem PM(m0:Int)(m1:Int)(m2:Int)(w:World):(Instr.build 155 #[(0, .int .i64 m0),(1, .int .i64 m1),(2, .int .i64 m2)]).run Tryz.prog w= .ok (.agg #[.int .i64 m0, .int .i64 m1, .int .i64 m2]) w:=by kernel_rfl
theorem Sj(m0:Int)(w:World):(Instr.build 155 #[(0, .int .i64 m0)]).run Tryz.prog w= .ok (.agg #[.int .i64 m0, .int .i64 0, .int .i64 0]) w:=by kernel_rfl
def Yv(n:Int):Bool:=decide (-2047≤n)&&decide (n≤2047)
theorem Gj(n:Int):Yv n=true↔ -2047≤n∧n≤2047:=by simp [Yv]
theorem Dg(n:Int)(w:World):Calls Tryz.prog 122 #[.int .i64 n] w fun e w'=>e= .returned (.bool (Yv n))∧w=w':=by
 go_enter Tryz.func122,Tryz.ntmps122
 repeat' (first
  | go_skip|((first|(with_reducible refine J4 ?_)|(with_reducible refine RI ?_));(first|go_big_want|go_step);go_step)|((with_reducible refine Ak _ (.pick _ _ _) ?_);first|(refine BD rfl AA ?_;go_step)|(refine A6 rfl AA ?_;go_step))|((refine AP 4 ?_);(refine CY _ (V.geq rfl rfl) AA (fun hB=>?_) (fun hB=>?_)<;>(try exact AQ)<;>go_step))|((with_reducible refine Ak _ (.binOp .leq _ _ _ _) ?_);(refine Ap AA (V.leq rfl rfl) ?_;go_step))|(refine AH ?_;go_step)|fail)
 all_goals (go_ret;exact ⟨Aw (by unfold Yv;simp;omega),rfl⟩)
theorem eA(r k:Nat)(hr:r≤15)(hk:k≤12):bits .or .i64 ((r:Int)*2^4) (k:Int)=((r*16+k:Nat):Int):=by
 rw [show (r:Int)*2^4=((r*16:Nat):Int) by push_cast;omega,bits_or_i64_nat _ _ (by omega) (by omega)]
 congr 1
 rw [show r*16=2^4*r by omega]
 exact (Nat.two_pow_add_eq_or_of_lt (i:=4) (by omega) r).symm
theorem NX(w0:World)(r:Nat)(n:Int)(hr:r≤15)(h0: -4096<n)(h1:n<4096):
 Calls Tryz.prog 136 #[.int .i64 r, .int .i64 n] w0 fun e w=>e= .returned (.agg #[.int .i64 (Hh r n).1, .int .i64 (Hh r n).2.1, .int .i64 (Hh r n).2.2])∧Af w0 w:=by
 have hs:=Tr n ⟨h0,h1⟩
 have HT:=AD (show Hh r n=(((r*16+sz n:Nat):Int),(sz n:Int),sv n) from rfl)
 obtain ⟨k,hk⟩:∃k,sz n=k:=⟨_,rfl⟩
 obtain ⟨v,hv⟩:∃v,sv n=v:=⟨_,rfl⟩
 rw [hk,hv] at HT
 have HO:=AD (eA r k hr (by omega))
 have HK:=AD hk
 have HV:=AD hv
 clear hk hv hs
 have hS:=St.start w0
 go_enter Tryz.func136,Tryz.ntmps136
 repeat' (first
  | (refine Al 144 ?_);refine Am AA Tryz.call144 (Ob n _ h0 h1) ?_;rintro e w' ⟨rfl,rfl⟩;rw [HK.out,HV.out];refine AX ?_;go_step|(refine AP 17 ?_);(refine Ag (.int _ (((r*16+k:Nat):Int))) (V.as (V.or rfl rfl) (by exact HO.out)) (by kernel_rfl) ?_;go_step)|refine X0 ?_|refine X4 ?_|refine ZT ?_|(refine AP 20 ?_);(refine Ap AA (V.build (vs:=[(0,_),(1,_),(2,_)]) rfl (PM _ _ _)) ?_;go_step)|refine JO 4 ?_;clear hS;intro g4 w hS|refine JD ?_;clear hS;intro w hS|refine AH ?_;go_step|fail)
 refine A9 rfl (AB.blk hS rfl (AO (n:=3) rfl) AK rfl) rfl ?_
 exact ⟨(by rw [HT.out];first|done|rfl),hS.1⟩
theorem El(w0:World)(before:Int)(l:List Int)(hl:Ac l 64)(hb: -2047≤before∧before≤2047)(hz:∀i,i<64→ -2047≤AJ l i∧AJ l i≤2047):
 Calls Tryz.prog 124 #[.int .i64 before, .agg (iv l)] w0 fun e w=>∃ad c,e= .returned (.slice ad (BY before (EQ l)).length c)∧St w0 w [own 155 3 ad (BY before (EQ l)).length c ((Ep (BY before (EQ l))).map (Value.int .i64))]:=by
 have hlz:=Bx l
 have hzz:∀i,i<64→ -2047≤AJ (EQ l) i∧AJ (EQ l) i≤2047:=fun i hi=>by rw [Fv _ i hi];exact hz _ (KJ i hi)
 obtain ⟨z,hze⟩:∃z,EQ l=z:=⟨_,rfl⟩
 have HZ:=AD hze
 rw [hze] at hlz hzz⊢
 have HZl:Ac z 64:=hlz
 have HZZ:=AD hzz
 have hz0:=hzz 0 (by omega)
 have hll:l.length=64:=hl
 obtain ⟨all,hall⟩:∃a,BY before z=a:=⟨_,rfl⟩
 rw [hall]
 have HAll:=AD hall
 have hzl:=AD hlz
 clear hze hlz hzz hall hz
 have hS:=St.start w0
 go_enter Tryz.func124,Tryz.ntmps124
 repeat' (first
  | (refine Al 65 ?_);refine Am AA Tryz.call65 (T9 _ l hll) ?_;rintro e w ⟨rfl,hE⟩;rw [HZ.out];replace hS:=hS.ext hE;clear hE;refine AX ?_;go_step|(refine Al 136 ?_);refine Am AA Tryz.call136 (NX _ 0 (AJ z 0-before) (by omega) (by omega) (by omega)) (EW hS ?_);clear hS;intro w hS;go_step|refine fL 16 ?_;clear hS;intro g16 w hS|refine X0 ?_|refine dN 11 ?_|refine Zn ?_|refine dY ?_|refine UQ ?_|refine O3 3 ?_;clear hS;intro g3 w hS|refine Jt ?_|refine FX ?_;clear hS;intro w hS|refine cz ?_|refine AH ?_;go_step|fail)
 rw [show 0+1*1=1 from rfl,show 64-1=63 from rfl]
 replace hS:St w0 w [own 155 3 (some ⟨g16,0,none⟩) 1 1 ((Ep [Hh 0 (AJ z 0-before)]).map (Value.int .i64)),arr g3 64 z]:=hS
 go_loopg [5,6,19] 63 (fun gk ov rv kv w=>∃(k r m:Nat) (o:List CO) (a':Option Addr) (c':Nat),gk+k=63∧kv= .int .i64 k∧rv= .int .i64 r∧ov= .slice a' m c'∧m+r≤k+1∧Hid (o.length=m)∧Hid (all=o++ID r (z.drop (k+1)))∧St w0 w [own 155 3 a' m c' ((Ep o).map (Value.int .i64)),arr g3 64 z])
 case atStart=>exact ⟨0,0,1,[Hh 0 (AJ z 0-before)],_,_,rfl,rfl,rfl,rfl,by omega,AD rfl,AD (by rw [←HAll.out];rfl),hS⟩
 case round=>
  clear hS
  obtain ⟨k,r,m,o,a',c',hk,rfl,rfl,rfl,hmr,HO,HA,hS⟩:=hrel
  by_cases hlt:k<63
  ·have hdrop:z.drop (k+1)=AJ z (k+1)::z.drop (k+2):=by
    rw [List.drop_eq_getElem_cons (by rw [hzl.out];omega)]
    simp [AJ,List.getD,hzl.out,show k+1<64 by omega]
   have hn:=HZZ.out (k+1) (by omega)
   have ha:=HA.out
   rw [hdrop,ID] at ha
   obtain ⟨n,hne⟩:∃n,AJ z (k+1)=n:=⟨_,rfl⟩
   rw [hne] at ha hn
   have HN:Hid (AJ z (1+k)=n):=AD (by rw [←hne];congr 1;omega)
   clear hdrop hne HA
   by_cases h0:n=0
   ·subst h0
    rw [if_pos rfl] at ha
    have HA2:=AD ha
    clear ha
    repeat' (first
     | (refine AP 22 ?_);refine Ad ?_;apply BZ hS 3 _ rfl _ _ rfl (AI rfl) _ _;(case hp=>exact AK);(case hi=>omega);rw [HN.out];refine AC ?_;go_step|refine X0 ?_|refine X2 ?_|refine Ys 21 ?_|refine Sc ?_|refine X7 ?_|refine AH ?_;go_step|fail)
    go_roundg (gk-1)
    case measure=>omega
    case rel=>exact ⟨k+1,r+1,m,o,a',c',by omega,by go_num,by go_num,rfl,by omega,HO,HA2,hS⟩
   rw [if_neg h0] at ha
   have HA2:=AD ha
   clear ha
   repeat' (first
    | (refine AP 22 ?_);refine Ad ?_;apply BZ hS 3 _ rfl _ _ rfl (AI rfl) _ _;(case hp=>exact AK);(case hi=>omega);rw [HN.out];refine AC ?_;go_step|refine X0 ?_|refine X2 ?_|refine Ys 21 ?_|refine Sc ?_|refine AH ?_;go_step|fail)
   obtain ⟨gk1,hgk1⟩:∃x,x=gk:=⟨_,rfl⟩
   subst hgk1
   go_loopg [5,6] r (fun gk ov rv w=>∃(m:Nat) (o:List CO) (a':Option Addr) (c':Nat),rv= .int .i64 gk∧ov= .slice a' m c'∧m+gk≤k+1∧Hid (o.length=m)∧Hid (all=o++(List.replicate (gk/16) FN++(Hh (gk%16) n::ID 0 (z.drop (k+2)))))∧St w0 w [own 155 3 a' m c' ((Ep o).map (Value.int .i64)),arr g3 64 z])
   case atStart=>exact ⟨m,o,a',c',rfl,rfl,hmr,HO,HA2,hS⟩
   case round=>
    clear hS HO HA2
    obtain ⟨m,o,a',c',rfl,rfl,hmr,HO,HA2,hS⟩:=hrel
    by_cases hbig:15<gk
    ·have HA3:Hid (all=(o++[FN])++(List.replicate ((gk-16)/16) FN++(Hh ((gk-16)%16) n::ID 0 (z.drop (k+2))))):=AD (by
      rw [HA2.out,show gk/16=(gk-16)/16+1 by omega,show gk%16=(gk-16)%16 by omega,List.replicate_succ];simp)
     have HF:=AD (show Ep (o++[FN])=Ep o++[240,0,0] from LM o FN)
     clear HA2
     repeat' (first
      | refine X0 ?_|refine G6 ?_|refine Zn ?_|(refine AP 32 ?_);(refine Ap AA (V.build (vs:=[(0,_)]) rfl (Sj _)) ?_;go_step)|refine Sb 33 ?_;clear hS;intro g33 w hS|refine WN 34 ?_;clear hS;intro ad34 c34 w hS|refine AH ?_;go_step|fail)
     go_roundg (gk-16)
     case measure=>omega
     case rel=>exact ⟨m+1,o++[FN],ad34,c34,by go_num,rfl,by omega,AD (by rw [List.length_append,HO.out];rfl),HA3,(by rw [HF.out];exact hS.sub AV)⟩
    have HA3:Hid (all=(o++[Hh gk n])++ID 0 (z.drop (k+2))):=AD (by
     rw [HA2.out,show gk/16=0 by omega,show gk%16=gk by omega];simp)
    have HF:=AD (LM o (Hh gk n))
    clear HA2
    repeat' (first
     | (refine Al 136 ?_);refine Am AA Tryz.call136 (NX _ gk n (by omega) (by omega) (by omega)) (EW hS ?_);clear hS;intro w hS;go_step|refine X0 ?_|refine G6 ?_|refine X7 ?_|refine Sb 39 ?_;clear hS;intro g39 w hS|refine WN 40 ?_;clear hS;intro ad40 c40 w hS|refine AH ?_;go_step|fail)
    go_roundg (gk1-1)
    case measure=>omega
    case rel=>exact ⟨k+1,0,m+1,o++[Hh gk n],ad40,c40,by omega,by go_num,rfl,rfl,by omega,AD (by rw [List.length_append,HO.out];rfl),HA3,(by rw [HF.out];exact hS.sub AV)⟩
  obtain rfl:k=63:=by omega
  have ha:=HA.out
  rw [show z.drop (63+1)=[] by rw [List.drop_eq_nil_iff,hzl.out];omega,ID] at ha
  by_cases h0:0<r
  ·rw [if_pos h0] at ha
   have HL:=AD (show all.length=m+1 by rw [ha,List.length_append,HO.out];rfl)
   have HF:=AD (show Ep all=Ep o++[0,0,0] by rw [ha,aF];rfl)
   clear ha HA
   repeat' (first
    | refine X0 ?_|refine X2 ?_|refine G6 ?_|(refine AP 45 ?_);(refine Ap AA (V.build (vs:=[(0,_)]) rfl (Sj _)) ?_;go_step)|refine Sb 46 ?_;clear hS;intro g46 w hS|refine WN 47 ?_;clear hS;intro ad47 c47 w hS|refine AH ?_;go_step|fail)
   go_ret
   refine ⟨ad47,c47,(by rw [HL.out];first|done|rfl),?_⟩
   rw [HL.out,HF.out]
   exact hS.sub AV
  rw [if_neg h0,List.append_nil] at ha
  have HL:=AD (show all.length=m by rw [ha,HO.out])
  have HF:=AD (show Ep all=Ep o by rw [ha])
  clear ha HA
  repeat' (first
   | refine X0 ?_|refine X2 ?_|refine G6 ?_|refine AH ?_;go_step|fail)
  go_ret
  refine ⟨a',c',(by rw [HL.out];first|done|rfl),?_⟩
  rw [HL.out,HF.out]
  exact hS.sub AV
def Dx(l:List Int):Bool:=B5 l (-2047) 2047
def F6(before:Int)(l:List Int):Int:=if Yv before=true∧Dx l=true then 0 else 1
def F7(before:Int)(l:List Int):List CO:=if F6 before l=0 then BY before (EQ l) else []
theorem Tv{before:Int}{l:List Int}(hl:l.length=64)(h:F6 before l=0):(-2047≤before∧before≤2047)∧∀i,i<64→ -2047≤AJ l i∧AJ l i≤2047:=by
 unfold F6 at h
 split at h
 ·rename_i h1
  exact ⟨(Gj _).1 h1.1,fun i hi=>(BG l (-2047) 2047).1 h1.2 i (by omega)⟩
 cases h
theorem bW{before:Int}{l:List Int}(hl:l.length=64)(h: -2047≤before∧before≤2047)(h2:∀i,i<64→ -2047≤AJ l i∧AJ l i≤2047):F6 before l=0:=by
 unfold F6
 rw [if_pos ⟨(Gj _).2 h,(BG l (-2047) 2047).2 fun i hi=>h2 i (by omega)⟩]
theorem J5(n:Int)(w:World):Calls Tryz.prog 137 #[.int .i64 n] w fun e w'=>e= .returned (.bool (decide (n< -2047)||decide (2047<n)))∧w=w':=by
 go_enter Tryz.func137,Tryz.ntmps137
 repeat' (first
  | (refine Al 122 ?_);refine Am AA Tryz.call122 (Dg n _) ?_;rintro e w' ⟨rfl,rfl⟩;refine AX ?_;go_step|refine X0 ?_|refine KS ?_|refine AH ?_;go_step|fail)
 all_goals (go_ret;exact ⟨Aw (by rw [Bool.eq_iff_iff];unfold Yv;simp<;>omega),rfl⟩)
theorem Oo(w0:World)(before:Int)(l:List Int)(hl:Ac l 64):
 Calls Tryz.prog 129 #[.int .i64 before, .agg (iv l)] w0 fun e w=>∃ad c,e= .returned (.tuple #[.slice ad (F7 before l).length c, .int .i64 (F6 before l)])∧St w0 w [own 155 3 ad (F7 before l).length c ((Ep (F7 before l)).map (Value.int .i64))]:=by
 have hll:l.length=64:=hl
 have hS:=St.start w0
 have hk:=Tryz.call137
 obtain ⟨b1,hb1⟩:∃b,Yv before=b:=⟨_,rfl⟩
 obtain ⟨b2,hb2⟩:∃b,Dx l=b:=⟨_,rfl⟩
 have hnot:(l.any fun n=>decide (n< -2047)||decide (2047<n))= !b2:=by rw [←hb2,Dx,B5,Bool.not_not]
 have HB1:=AD hb1
 have HN:=AD hnot
 by_cases hbad:b1=true∧b2=true
 case neg=>
  have HE:=AD (show F6 before l=1 by unfold F6;rw [if_neg (by rw [hb1,hb2];exact hbad)])
  have HL:=AD (show F7 before l=[] by unfold F7;rw [if_neg (by rw [HE.out];decide)])
  clear hb1 hb2 hnot
  cases b1
  case false=>
   clear hbad HN
   go_enter Tryz.func129,Tryz.ntmps129
   repeat' (first
    | (refine Al 122 ?_);refine Am AA Tryz.call122 (Dg before _) ?_;rintro e w' ⟨rfl,rfl⟩;rw [HB1.out];refine AX ?_;go_step|go_skip|refine X0 ?_|refine Eu ?_|refine K1 8 ?_ ?_<;>intro hB<;>(try exact Kk hB)<;>go_step|refine O3 3 ?_;clear hS;intro g3 w hS|refine AH ?_;go_step|fail)
   refine AM (xs:=[_,_]) rfl (.cons (AB.tmp rfl) (.cons (AB.tmp rfl) (.nil))) (by simp) rfl ?_
   refine ⟨none,0,(by rw [HE.out,HL.out];first|done|rfl),?_⟩
   rw [HL.out]
   exact (St.of_ext hS.1).nil _ _
  case true=>
   have hb2:b2=false:=by cases b2<;>simp_all
   subst hb2
   clear hbad
   go_enter Tryz.func129,Tryz.ntmps129
   repeat' (first
    | (refine Al 122 ?_);refine Am AA Tryz.call122 (Dg before _) ?_;rintro e w' ⟨rfl,rfl⟩;rw [HB1.out];refine AX ?_;go_step|(refine Al 76 ?_);refine Am AA Tryz.call76 (BH _ _ l (hS.isl AK (by decide)) 137 #[] (fun n=>decide (n< -2047)||decide (2047<n)) hk (fun n=>J5 n _)) ?_;rintro e w' ⟨rfl,rfl⟩;rw [HN.out];refine AX ?_;go_step|refine X0 ?_|refine IL ?_|refine K1 8 ?_ ?_<;>intro hB<;>(try exact Kk hB)<;>go_step|refine dY ?_|refine O3 3 ?_;clear hS;intro g3 w hS|refine AH ?_;go_step|fail)
   refine AM (xs:=[_,_]) rfl (.cons (AB.tmp rfl) (.cons (AB.tmp rfl) (.nil))) (by simp) rfl ?_
   refine ⟨none,0,(by rw [HE.out,HL.out];first|done|rfl),?_⟩
   rw [HL.out]
   exact (St.of_ext hS.1).nil _ _
 ·obtain ⟨rfl,rfl⟩:=hbad
  have HE:=AD (show F6 before l=0 by unfold F6;rw [if_pos ⟨hb1,hb2⟩])
  have HL:=AD (show F7 before l=BY before (EQ l) by unfold F7;rw [if_pos HE.out])
  obtain ⟨q1,q2⟩:=Tv hll HE.out
  have Q2:=AD q2
  clear hb1 hb2 hnot q2
  go_enter Tryz.func129,Tryz.ntmps129
  repeat' (first
   | (refine Al 122 ?_);refine Am AA Tryz.call122 (Dg before _) ?_;rintro e w' ⟨rfl,rfl⟩;rw [HB1.out];refine AX ?_;go_step|(refine Al 76 ?_);refine Am AA Tryz.call76 (BH _ _ l (hS.isl AK (by decide)) 137 #[] (fun n=>decide (n< -2047)||decide (2047<n)) hk (fun n=>J5 n _)) ?_;rintro e w' ⟨rfl,rfl⟩;rw [HN.out];refine AX ?_;go_step|(refine Al 124 ?_);refine Am AA Tryz.call124 (El _ before l hl q1 Q2.out) ?_;rintro e w ⟨ad2,c2,rfl,hS2⟩;replace hS:=hS.call1 hS2;clear hS2;refine AX ?_;go_step|refine X0 ?_|refine IL ?_|refine K1 8 ?_ ?_<;>intro hB<;>(try exact Kk hB)<;>go_step|refine dY ?_|refine O3 3 ?_;clear hS;intro g3 w hS|refine Jt ?_|refine AH ?_;go_step|fail)
  refine AM (xs:=[_,_]) rfl (.cons (AB.tmp rfl) (.cons (AB.tmp rfl) (.nil))) (by simp) rfl ?_
  refine ⟨ad2,c2,(by rw [HE.out,HL.out];first|done|rfl),?_⟩
  rw [HL.out]
  exact hS.sub AV
def A5(l:List Int)(n:Nat):Bool:=(List.range n).all fun k=>Dx (Bp l 64 k)
theorem PH(l:List Int)(n:Nat):A5 l (n+1)=(A5 l n&&Dx (Bp l 64 n)):=by
 unfold A5;rw [List.range_succ,List.all_append];simp
theorem De{l:List Int}{n k:Nat}(h:A5 l n=true)(hk:k<n):Dx (Bp l 64 k)=true:=by
 unfold A5 at h
 rw [List.all_eq_true] at h
 exact h k (List.mem_range.2 hk)
theorem RH{l:List Int}{n k:Nat}(hk:k<n)(h:Dx (Bp l 64 k)=false):A5 l n=false:=by
 cases e:A5 l n
 ·rfl
 rw [De e hk] at h;cases h
def Be(l:List Int)(n:Nat):Int:=if 400<n then 2 else if A5 l n then 0 else 1
def Cu(L:List Int):List Int:=(List.range 256).map fun s:Nat=>((L.count (s:Int):Nat):Int)
theorem Dp(L:List Int):(Cu L).length=256:=by unfold Cu;simp
theorem EG(L:List Int){s:Nat}(h:s<256):AJ (Cu L) s=((L.count (s:Int):Nat):Int):=by
 unfold Cu AJ List.getD
 rw [List.getElem?_map,List.getElem?_range h];rfl
theorem Kb{A B:List Int}(ha:A.length=256)(hb:B.length=256)(h:∀i,i<256→AJ A i=AJ B i):A=B:=by
 refine List.ext_getElem (by rw [ha,hb]) fun i h1 h2=>?_
 have:=h i (by omega)
 simpa [AJ,List.getD,h1,h2] using this
theorem Ay:Cu []=List.replicate 256 0:=by
 refine Kb (Dp _) List.length_replicate fun i hi=>?_
 rw [EG _ hi]
 simp only [AJ,List.getD,List.getElem?_replicate,if_pos hi]
 rfl
theorem PT(L:List Int){s:Nat}(h:s<256):(Cu L).set s (AJ (Cu L) s+1)=Cu (L++[(s:Int)]):=by
 refine Kb (by rw [List.length_set,Dp]) (Dp _) fun i hi=>?_
 rw [CS _ _ _ _ (by rw [Dp];exact h),EG _ hi,EG _ h,EG _ hi,List.count_append,List.count_singleton]
 by_cases e:s=i
 ·subst e;simp
 rw [if_neg e,if_neg (by simp;omega)];simp
def Vz(l:List Int)(k:Nat):Int:=if k=0 then 0 else AJ (Bp l 64 (k-1)) 0
def Vg(l:List Int)(k:Nat):List CO:=F7 (Vz l k) (Bp l 64 k)
def Q5(l:List Int)(n:Nat):List Int:=(List.range n).flatMap fun k=>((Vg l k).take 1).map (·.1)
def L4(l:List Int)(n:Nat):List Int:=(List.range n).flatMap fun k=>((Vg l k).drop 1).map (·.1)
theorem L3(l:List Int)(n:Nat):Q5 l (n+1)=Q5 l n++((Vg l n).take 1).map (·.1):=by unfold Q5;rw [List.range_succ,List.flatMap_append];simp
theorem Qc(l:List Int)(n:Nat):L4 l (n+1)=L4 l n++((Vg l n).drop 1).map (·.1):=by unfold L4;rw [List.range_succ,List.flatMap_append];simp
theorem Om{p:Int}{x:List Int}(hx:x.length=64):(F7 p x).length≤64:=by
 unfold F7
 split
 ·exact (MD p (EQ x) (Bx x)).2
 simp
theorem YQ{l:List Int}{m:Nat}(hl:l.length=m*64):∀n,n≤m→(Q5 l n).length+(L4 l n).length≤n*64
 | 0,_=>by simp [Q5,L4]
 | n+1,h=>by
   have ih:=YQ hl n (by omega)
   have h1:(Vg l n).length≤64:=Om (CT l 64 n m hl (by omega))
   rw [L3,Qc]
   simp
   omega
theorem Ho(L:List Int){q:Nat}(hq:q<256):0≤AJ (Cu L) q∧AJ (Cu L) q≤L.length:=by
 rw [EG _ hq]
 have:=List.count_le_length (a:=(q:Int)) (l:=L)
 omega
end Go.Proofs.YtohacgmhmbijmaaGreatDoor
namespace Go.Proofs.YtohacgmhmbijmaaGreatDoor
attribute [local irreducible] Region.wanted
set_option linter.unusedVariables false
set_option maxRecDepth 100000
set_option maxHeartbeats 8000000
def MX(t:CO):Bool:= !(decide (0≤t.2.1∧t.2.1≤11)&&decide (0≤t.2.2∧t.2.2<2^t.2.1.toNat)&&decide (0≤t.1∧t.1≤255)&&decide (t.2.1=t.1%16)&&(decide (t.2.1≠0)||decide (t.1=0∨t.1=240)))
def C7(t:CO):Int:=D4 t.2.1.toNat t.2.2.toNat
section
variable{σ:Type}(next:σ→Bool→CO×Int×σ)
def BP:Nat→Nat→List Int→List CO→σ→Int×List Int×List CO×σ
 | 0,_,b,all,s=>(0,b,all,s)
 | f+1,at_,b,all,s=>
   if 64≤at_ then (0,b,all,s) else
   if (next s false).2.1≠0 then ((next s false).2.1,b,all,(next s false).2.2) else
   if MX (next s false).1=true then (4,b,all++[(next s false).1],(next s false).2.2) else
   if (next s false).1.1=0 then (0,b,all++[(next s false).1],(next s false).2.2) else
   if (next s false).1.1=240 then
    if 64<at_+16 then (4,b,all++[(next s false).1],(next s false).2.2) else BP f (at_+16) b (all++[(next s false).1]) (next s false).2.2
   else
    if 64≤at_+(next s false).1.1.toNat/16 then (4,b,all++[(next s false).1],(next s false).2.2)
    else BP f (at_+(next s false).1.1.toNat/16+1) (b.set (at_+(next s false).1.1.toNat/16) (C7 (next s false).1)) (all++[(next s false).1]) (next s false).2.2
def Bm(before:Int)(t:CO):Bool:=decide (0≤t.2.1∧t.2.1≤12)&&decide (0≤t.2.2∧t.2.2<2^t.2.1.toNat)&&decide (t.1=t.2.1)&&decide (-2047≤before+C7 t∧before+C7 t≤2047)
def CB(n:Int):List Int:=(List.replicate 64 0).set 0 n
def DV(before:Int)(s:σ):Int×List Int×List CO×σ:=
 if (next s true).2.1≠0 then ((next s true).2.1,List.replicate 64 0,[],(next s true).2.2) else
 if Bm before (next s true).1=false then (4,List.replicate 64 0,[],(next s true).2.2) else
 if (BP next 64 1 (CB (before+C7 (next s true).1)) [(next s true).1] (next s true).2.2).1≠0 then
  ((BP next 64 1 (CB (before+C7 (next s true).1)) [(next s true).1] (next s true).2.2).1,List.replicate 64 0,[],(BP next 64 1 (CB (before+C7 (next s true).1)) [(next s true).1] (next s true).2.2).2.2.2) else
 if BY before (BP next 64 1 (CB (before+C7 (next s true).1)) [(next s true).1] (next s true).2.2).2.1=(BP next 64 1 (CB (before+C7 (next s true).1)) [(next s true).1] (next s true).2.2).2.2.1 then
  (0,CI (BP next 64 1 (CB (before+C7 (next s true).1)) [(next s true).1] (next s true).2.2).2.1,(BP next 64 1 (CB (before+C7 (next s true).1)) [(next s true).1] (next s true).2.2).2.2.1,(BP next 64 1 (CB (before+C7 (next s true).1)) [(next s true).1] (next s true).2.2).2.2.2)
 else (4,List.replicate 64 0,[],(BP next 64 1 (CB (before+C7 (next s true).1)) [(next s true).1] (next s true).2.2).2.2.2)
end
theorem GR(n:Int):D4 (sz n) (sv n).toNat=n∧0≤sv n∧sv n<2^sz n:=by
 obtain ⟨h1,h2⟩:=Gb n.natAbs
 have hz:JR n.natAbs=sz n:=rfl
 rw [hz] at h1 h2
 have e:((2:Int)^sz n)=((2^sz n:Nat):Int):=by push_cast;rfl
 rw [e]
 by_cases hn:n<0
 ·obtain ⟨h3,h4⟩:=h2 (by omega)
  have hsv:sv n=n+((2^sz n-1:Nat):Int):=by unfold sv;rw [if_pos hn]
  have hp:2^sz n=2*2^(sz n-1):=by rw [←Nat.pow_succ'];congr 1;omega
  obtain ⟨p,hpe⟩:∃p,2^(sz n-1)=p:=⟨_,rfl⟩
  rw [hpe] at h4 hp
  rw [hp] at h1 hsv
  refine ⟨?_,by rw [hsv];omega,by rw [hp,hsv];omega⟩
  unfold D4
  rw [if_pos ⟨by omega,by rw [hpe,hsv];omega⟩,hp,hsv];omega
 have hsv:sv n=n:=by unfold sv;rw [if_neg hn]
 by_cases h0:n=0
 ·subst h0
  rw [bO,bR]
  exact ⟨rfl,by omega,by decide⟩
 obtain ⟨h3,h4⟩:=h2 (by omega)
 refine ⟨?_,by rw [hsv];omega,by rw [hsv];omega⟩
 unfold D4
 rw [if_neg (by rw [hsv];omega),hsv];omega
theorem eN(r:Nat)(n:Int)(hr:r≤15)(hn:n≠0)(hb: -2048<n∧n<2048):MX (Hh r n)=false∧(Hh r n).1≠0∧(Hh r n).1≠240∧(Hh r n).1.toNat/16=r∧C7 (Hh r n)=n:=by
 have h1:=eK n hn
 have h2:=Ts n hb
 obtain ⟨h3,h4,h5⟩:=GR n
 unfold Hh
 refine ⟨?_,by show ((r*16+sz n:Nat):Int)≠0;omega,by show ((r*16+sz n:Nat):Int)≠240;omega,by show ((r*16+sz n:Nat):Int).toNat/16=r;omega,?_⟩
 ·unfold MX
  dsimp only
  rw [decide_eq_true (show 0≤((sz n:Nat):Int)∧((sz n:Nat):Int)≤11 by omega),decide_eq_true (show 0≤sv n∧sv n<2^((sz n:Nat):Int).toNat by rw [Int.toNat_natCast];exact ⟨h4,h5⟩),decide_eq_true (show 0≤((r*16+sz n:Nat):Int)∧((r*16+sz n:Nat):Int)≤255 by omega),
   decide_eq_true (show ((sz n:Nat):Int)=((r*16+sz n:Nat):Int)%16 by omega),decide_eq_true (show ((sz n:Nat):Int)≠0 by omega)]
  rfl
 unfold C7
 dsimp only
 rw [Int.toNat_natCast];exact h3
theorem Wv(before n:Int)(hb: -2047≤before∧before≤2047)(hn: -2047≤n∧n≤2047):Bm before (Hh 0 (n-before))=true∧before+C7 (Hh 0 (n-before))=n:=by
 obtain ⟨h3,h4,h5⟩:=GR (n-before)
 have h2:=Tr (n-before) (by omega)
 have hnum:C7 (Hh 0 (n-before))=n-before:=by unfold C7 Hh;dsimp only;rw [Int.toNat_natCast];exact h3
 refine ⟨?_,by rw [hnum];omega⟩
 unfold Bm
 rw [hnum]
 unfold Hh
 dsimp only
 rw [decide_eq_true (show 0≤((sz (n-before):Nat):Int)∧((sz (n-before):Nat):Int)≤12 by omega),decide_eq_true (show 0≤sv (n-before)∧sv (n-before)<2^((sz (n-before):Nat):Int).toNat by rw [Int.toNat_natCast];exact ⟨h4,h5⟩),
  decide_eq_true (show ((0*16+sz (n-before):Nat):Int)=((sz (n-before):Nat):Int) by omega),decide_eq_true (show -2047≤before+(n-before)∧before+(n-before)≤2047 by omega)]
 rfl
def FH{σ:Type}(next:σ→Bool→CO×Int×σ):List CO→σ→σ→Prop
 | [],s,s'=>s=s'
 | t::r,s,s'=>(next s false).1=t∧(next s false).2.1=0∧FH next r (next s false).2.2 s'
theorem KI:∀l:List Int,(∀n∈l,n=0)∨∃m n l',n≠0∧l=List.replicate m 0++n::l'
 | []=> .inl (by simp)
 | n::l=>by
   by_cases h:n=0
   ·rcases KI l with h2|⟨m,n',l',h2,h3⟩
    ·exact .inl (by intro x hx;rcases List.mem_cons.1 hx with rfl|hx;exact h;exact h2 x hx)
    exact .inr ⟨m+1,n',l',h2,by rw [h3,h];rfl⟩
   exact .inr ⟨0,n,l,h,rfl⟩
theorem Vh(m:Nat)(n:Int)(l:List Int)(hn:n≠0):∀r,ID r (List.replicate m 0++n::l)=List.replicate ((r+m)/16) FN++(Hh ((r+m)%16) n::ID 0 l):=by
 induction m with
 | zero=>intro r;simp only [List.replicate_zero,List.nil_append,ID,if_neg hn,Nat.add_zero]
 | succ m ih=>intro r;rw [List.replicate_succ,List.cons_append,ID,if_pos rfl,ih,show r+1+m=r+(m+1) by omega]
theorem Tu:∀(l:List Int)(r:Nat),(∀n∈l,n=0)→ID r l=if 0<r+l.length then [aB] else []
 | [],r,_=>by simp [ID]
 | n::l,r,h=>by
   rw [ID,if_pos (h n (by simp)),Tu l (r+1) fun x hx=>h x (by simp [hx])]
   simp only [List.length_cons]
   rw [if_pos (by omega),if_pos (by omega)]
section
variable{σ:Type}{next:σ→Bool→CO×Int×σ}
theorem FH.append:∀{l m:List CO} {s s':σ},FH next (l++m) s s'→∃s1,FH next l s s1∧FH next m s1 s'
 | [],m,s,s',h=>⟨s,rfl,h⟩
 | t::l,m,s,s',⟨h1,h2,h3⟩=>by
   obtain ⟨s1,h4,h5⟩:=FH.append h3
   exact ⟨s1,⟨h1,h2,h4⟩,h5⟩
theorem WU:MX FN=false:=by decide+kernel
theorem Zy:MX aB=false:=by decide+kernel
theorem U9(f:Nat)(at_:Nat)(b:List Int)(all:List CO)(s s':σ):∀q,at_+16*q≤63→FH next (List.replicate q FN) s s'→
 BP next (f+q) at_ b all s=BP next f (at_+16*q) b (all++List.replicate q FN) s':=by
 intro q
 induction q generalizing at_ all s with
 | zero=>intro _ h;rw [show s=s' from h];simp
 | succ q ih=>
   intro hq h
   rw [List.replicate_succ] at h
   obtain ⟨h1,h2,h3⟩:=h
   rw [show f+(q+1)=(f+q)+1 by omega,BP,if_neg (by omega),h1,h2,if_neg (by simp),if_neg (by rw [WU];simp),if_neg (by decide),if_pos (show FN.1=240 from rfl),if_neg (by omega),ih (at_+16) _ _ (by omega) h3,List.replicate_succ]
   rw [show at_+16+16*q=at_+16*(q+1) by omega]
   simp
theorem bC(z b:List Int)(at_ j:Nat)(hz:z.length=64)(hb:b=z.take at_++List.replicate (64-at_) 0)(hj:at_+j<64)(hzero:∀i,i<j→AJ z (at_+i)=0):b.set (at_+j) (AJ z (at_+j))=z.take (at_+j+1)++List.replicate (64-(at_+j+1)) 0:=by
 have hbl:b.length=64:=by rw [hb];simp [hz];omega
 apply Eb
 ·simp [hbl,hz];omega
 intro i hi
 rw [List.length_set,hbl] at hi
 rw [CS _ _ _ _ (by omega)]
 have hL:(z.take at_).length=at_:=by simp [hz];omega
 have hL2:(z.take (at_+j+1)).length=at_+j+1:=by simp [hz];omega
 have htake:∀k,i<k→AJ (z.take k) i=AJ z i:=fun k hk=>QE _ _ _ hk
 split
 ·rename_i h;subst h
  rw [GK _ _ _ (by omega),htake _ (by omega)]
 rename_i h
 rw [hb]
 by_cases h1:i<at_
 ·rw [GK _ _ _ (by omega),GK _ _ _ (by omega),htake _ h1,htake _ (by omega)]
 rw [Lb _ _ _ (by omega),EL]
 by_cases h2:i<at_+j+1
 ·rw [GK _ _ _ (by omega),htake _ h2]
  have:=hzero (i-at_) (by omega)
  rw [show at_+(i-at_)=i by omega] at this
  exact this.symm
 rw [Lb _ _ _ (by omega),EL]
theorem VA(z:List Int)(hz:z.length=64)(hr:∀i,i<64→ -2047≤AJ z i∧AJ z i≤2047):∀(k at_ f:Nat)(b:List Int)(all:List CO)(s s':σ),64-at_=k→at_≤64→k≤f→b=z.take at_++List.replicate (64-at_) 0→FH next (ID 0 (z.drop at_)) s s'→
 BP next f at_ b all s=(0,z,all++ID 0 (z.drop at_),s'):=by
 intro k
 induction k using Nat.strongRecOn with
 | _ k ih=>
   intro at_ f b all s s' hk hat hf hb hfd
   by_cases h64:at_=64
   ·subst h64
    have hd:z.drop 64=[]:=by rw [List.drop_eq_nil_iff];omega
    rw [hd] at hfd⊢
    have hs:s=s':=hfd
    have hbz:b=z:=by rw [hb,Nat.sub_self,List.replicate_zero,List.append_nil,←hz,List.take_length]
    cases f with
    | zero=>rw [BP,hs,hbz];simp [ID]
    | succ f=>rw [BP,if_pos (by omega),hs,hbz];simp [ID]
   rcases KI (z.drop at_) with hall|⟨m,n,l',hn,hl'⟩
   ·rw [Tu _ 0 hall] at hfd⊢
    have hlen:0<0+(z.drop at_).length:=by rw [List.length_drop,hz];omega
    rw [if_pos hlen] at hfd⊢
    obtain ⟨h1,h2,h3⟩:=hfd
    obtain ⟨f,rfl⟩:∃g,f=g+1:=⟨f-1,by omega⟩
    have hbz:b=z:=by
     rw [hb]
     conv=>rhs;rw [←List.take_append_drop at_ z]
     congr 1
     have:(z.drop at_).length=64-at_:=by rw [List.length_drop,hz]
     rw [←this]
     exact (List.eq_replicate_iff.2 ⟨rfl,hall⟩).symm
    rw [BP,if_neg (by omega),h1,h2,if_neg (by simp),if_neg (by rw [Zy];simp),if_pos (show aB.1=0 from rfl),hbz,show (next s false).2.2=s' from h3]
   rw [hl',Vh m n l' hn 0,Nat.zero_add] at hfd⊢
   have hdl:(z.drop at_).length=64-at_:=by rw [List.length_drop,hz]
   rw [hl',List.length_append,List.length_replicate,List.length_cons] at hdl
   have hnth:∀i,AJ z (at_+i)=AJ (List.replicate m 0++n::l') i:=fun i=>by rw [←hl',QB]
   have hnm:AJ z (at_+m)=n:=by rw [hnth,Lb _ _ _ (by simp)];simp [AJ]
   have hd2:z.drop (at_+m+1)=l':=by
    have:z.drop (at_+m+1)=(z.drop at_).drop (m+1):=by rw [List.drop_drop,Nat.add_assoc]
    rw [this,hl',List.drop_append,List.drop_of_length_le (by simp)];simp
   obtain ⟨s1,hf1,hf2⟩:=hfd.append
   obtain ⟨h1,h2,h3⟩:=hf2
   have hq:16*(m/16)+m%16=m:=Nat.div_add_mod m 16
   obtain ⟨g,hg⟩:∃g,f=(g+1)+m/16:=⟨f-1-m/16,by omega⟩
   obtain ⟨t1,t2,t3,t4,t5⟩:=eN (m%16) n (by omega) hn (by have:=hr (at_+m) (by omega);rw [hnm] at this;omega)
   rw [hg,U9 (g+1) at_ b all s s1 (m/16) (by omega) hf1,BP,if_neg (by omega),h1,h2,if_neg (by simp),if_neg (by rw [t1];simp),if_neg t2,if_neg t3,t4,t5,if_neg (by omega)]
   rw [show at_+16*(m/16)+m%16=at_+m by omega]
   have hset:=bC z b at_ m hz hb (by omega) fun i hi=>by rw [hnth,GK _ _ _ (by simpa using hi),aS _ _ _ hi]
   rw [hnm] at hset
   have:=ih (64-(at_+m+1)) (by omega) (at_+m+1) g (b.set (at_+m) n) (all++List.replicate (m/16) FN++[Hh (m%16) n]) (next s1 false).2.2 s' rfl (by omega) (by omega) hset (by rw [hd2];exact h3)
   rw [this,hd2]
   simp
theorem W2(before:Int)(z:List Int)(hz:z.length=64)(hb: -2047≤before∧before≤2047)(hr:∀i,i<64→ -2047≤AJ z i∧AJ z i≤2047)(s s':σ)(h1:(next s true).1=Hh 0 (AJ z 0-before))(h2:(next s true).2.1=0)
 (h3:FH next (ID 0 (z.drop 1)) (next s true).2.2 s'):DV next before s=(0,CI z,BY before z,s'):=by
 obtain ⟨f1,f2⟩:=Wv before (AJ z 0) hb (hr 0 (by omega))
 have hl:=VA z hz hr 63 1 64 (CB (AJ z 0)) [Hh 0 (AJ z 0-before)] (next s true).2.2 s' rfl (by omega) (by omega) (by
  unfold CB
  match z,hz with
  | n::z,_=>rfl) h3
 unfold DV
 rw [h1,h2,if_neg (by simp),if_neg (by rw [f1];simp),f2,hl]
 rw [if_neg (by simp)]
 exact (if_pos (show BY before z=_ from rfl)).trans rfl
end
end Go.Proofs.YtohacgmhmbijmaaGreatDoor
namespace Go.Proofs.YtohacgmhmbijmaaGreatDoor
attribute [local irreducible] Region.wanted
open Go.RowKit
set_option linter.unusedVariables false
set_option maxRecDepth 100000
set_option maxHeartbeats 8000000
def FO:List CO→List (CO×Bool)
 | []=>[]
 | t::r=>(t,true)::r.map fun x=>(x,false)
def DT(l:List Int):Nat→Nat→List (CO×Bool)
 | _,0=>[]
 | k,f+1=>FO (Vg l k)++DT l (k+1) f
def Dq{σ:Type}(step:σ→CO→Bool→Int×σ):List (CO×Bool)→σ→Int×σ
 | [],s=>(0,s)
 | x::r,s=>if (step s x.1 x.2).1=0 then Dq step r (step s x.1 x.2).2 else step s x.1 x.2
theorem Sy{σ:Type}(step:σ→CO→Bool→Int×σ):∀(A B:List (CO×Bool))(s:σ),Dq step (A++B) s=if (Dq step A s).1=0 then Dq step B (Dq step A s).2 else Dq step A s
 | [],B,s=>by simp [Dq]
 | x::A,B,s=>by
   rw [List.cons_append,Dq,Dq]
   by_cases h:(step s x.1 x.2).1=0
   ·rw [if_pos h,if_pos h,Sy step A B]
   rw [if_neg h,if_neg h,if_neg h]
def Rv(t:CO):Prop:=(0≤t.1∧t.1<256)∧(0≤t.2.1∧t.2.1≤12)∧0≤t.2.2∧t.2.2<2^t.2.1.toNat
theorem Tw(r:Nat)(n:Int)(hr:r≤15)(hb: -4096<n∧n<4096):Rv (Hh r n):=by
 have h1:=Tr n hb
 have h2:=GR n
 unfold Rv Hh
 dsimp only
 rw [Int.toNat_natCast]
 exact ⟨by omega,by omega,h2.2.1,by exact_mod_cast h2.2.2⟩
theorem Ok:∀(l:List Int)(r:Nat),(∀x∈l,-2047≤x∧x≤2047)→∀t∈ID r l,Rv t
 | [],r,_,t,ht=>by
   unfold ID at ht
   split at ht
   ·simp at ht;subst ht;unfold Rv;decide
   simp at ht
 | n::l,r,h,t,ht=>by
   unfold ID at ht
   split at ht
   ·exact Ok l (r+1) (fun x hx=>h x (by simp [hx])) t ht
   rcases List.mem_append.1 ht with ht|ht
   ·rw [List.eq_of_mem_replicate ht];unfold Rv;decide
   rcases List.mem_cons.1 ht with rfl|ht
   ·exact Tw (r%16) n (by omega) (by have:=h n (by simp);omega)
   exact Ok l 0 (fun x hx=>h x (by simp [hx])) t ht
theorem Qj{p:Int}{x:List Int}(hx:x.length=64):∀t∈F7 p x,Rv t:=by
 intro t ht
 unfold F7 at ht
 split at ht
 ·rename_i h
  obtain ⟨h1,h2⟩:=Tv hx h
  have hz:∀i,i<64→ -2047≤AJ (EQ x) i∧AJ (EQ x) i≤2047:=fun i hi=>by rw [Fv _ i hi];exact h2 _ (KJ i hi)
  unfold BY at ht
  rcases List.mem_cons.1 ht with rfl|ht
  ·have:=hz 0 (by omega)
   exact Tw 0 _ (by omega) (by omega)
  refine Ok _ 0 (fun y hy=>?_) t ht
  obtain ⟨i,hi,rfl⟩:=List.mem_iff_getElem.1 (List.mem_of_mem_drop hy)
  have:=hz i (by rw [←Bx x];exact hi)
  simpa [AJ,List.getD,hi] using this
 simp at ht
theorem P8(T:List CO):(FO T).length=T.length:=by cases T<;>simp [FO]
theorem XL{T:List CO}{i:Nat}{x:CO}(h:T[i]? =some x):(FO T).drop i=(x,decide (i=0))::(FO T).drop (i+1):=by
 cases T with
 | nil=>simp at h
 | cons t r=>
   cases i with
   | zero=>simp at h;subst h;simp [FO]
   | succ i=>
     rw [List.getElem?_cons_succ] at h
     have hi:i<r.length:=by
      rcases Nat.lt_or_ge i r.length with h1|h1
      ·exact h1
      rw [List.getElem?_eq_none h1] at h;cases h
     have hx:r[i]=x:=by rw [List.getElem?_eq_getElem hi] at h;exact Option.some.inj h
     simp only [FO,List.drop_succ_cons]
     rw [←List.map_drop,←List.map_drop,List.drop_eq_getElem_cons hi,hx]
     simp
theorem Qh(l:List Int):∀(f k:Nat),DT l k (f+1)=DT l k f++FO (Vg l (k+f))
 | 0,k=>by simp [DT]
 | f+1,k=>by
   rw [DT,Qh l f (k+1),DT,List.append_assoc,show k+1+f=k+(f+1) by omega]
theorem dg{l:List Int}{n k:Nat}(hl:l.length=n*64)(h:A5 l n=true)(hk:k<n): -2047≤Vz l k∧Vz l k≤2047:=by
 unfold Vz
 by_cases h0:k=0
 ·rw [if_pos h0];omega
 rw [if_neg h0]
 have h1:=De h (show k-1<n by omega)
 have h2:=(BG _ _ _).1 h1 0 (by rw [CT l 64 (k-1) n hl (by omega)];omega)
 exact h2
theorem YS{l:List Int}{n k:Nat}(hl:l.length=n*64)(h:A5 l n=true)(hk:k<n):F6 (Vz l k) (Bp l 64 k)=0∧Vg l k=BY (Vz l k) (EQ (Bp l 64 k)):=by
 have h1:F6 (Vz l k) (Bp l 64 k)=0:=by
  unfold F6
  rw [if_pos ⟨(Gj _).2 (dg hl h hk),De h hk⟩]
 exact ⟨h1,by unfold Vg F7;rw [if_pos h1]⟩
theorem Vl(x:List Int):F6 0 x=if Dx x then 0 else 1:=by
 unfold F6
 have h0:Yv 0=true:=rfl
 by_cases h:Dx x=true
 ·rw [if_pos ⟨h0,h⟩,if_pos h]
 rw [if_neg (fun e=>h e.2),if_neg h]
def B6(s:List Int×List Int)(t:CO)(b:Bool):Int×List Int×List Int:=(0,if b then (s.1++[t.1],s.2) else (s.1,s.2++[t.1]))
theorem Wi(r:List CO):∀s:List Int×List Int,Dq B6 (r.map fun x=>(x,false)) s=(0,s.1,s.2++r.map (·.1)):=by
 induction r with
 | nil=>intro s;simp [Dq]
 | cons t r ih=>intro s;simp only [List.map_cons,Dq];rw [if_pos (show (B6 s t false).1=0 from rfl),ih];simp [B6]
theorem Wh(T:List CO)(s:List Int×List Int):Dq B6 (FO T) s=(0,s.1++(T.take 1).map (·.1),s.2++(T.drop 1).map (·.1)):=by
 cases T with
 | nil=>simp [FO,Dq]
 | cons t r=>rw [FO,Dq,if_pos (show (B6 s t true).1=0 from rfl),Wi];simp [B6]
theorem Kc(l:List Int):∀f,Dq B6 (DT l 0 f) ([],[])=(0,Q5 l f,L4 l f)
 | 0=>rfl
 | f+1=>by
   rw [Qh,Sy,Kc l f,if_pos rfl,Wh,L3,Qc,Nat.zero_add]
theorem V.makeFunc{P:Program}{ty:TypeId}{a:Act}{fn:Fn}{cs:List Operand}{vs:List Value}(h:cs.map a.eval=vs):DS P (.makeFunc fn #[] cs.toArray) ty a (.func fn #[] vs.toArray):=fun d pos af g w=>by
 subst h
 simp only [execOp,List.map_toArray]
 rfl
structure eZ(W:World)(σ:Type) where
 step:σ→CO→Bool→Int×σ
 res:σ→Aq
 ok:σ→Nat→Prop
 K:FuncId
 caps:Array Value
 inv:∀(args:Array Value)(w:World),(callFunc K args).run Tryz.prog w= .ok (.enter K args) w
 okS:∀s m t b,ok s (m+1)→Rv t→(step s t b).1=0→ok (step s t b).2 m
 okM:∀s m k,ok s m→k≤m→ok s k
 call:∀(w:World)(rs rs':List Aq)(s:σ)(m:Nat)(t0 t1 t2:Int)(b:Bool)(er:Int)(s':σ),St W w rs→AU (res s) rs rs'→ok s (m+1)→Rv (t0,t1,t2)→step s (t0,t1,t2) b=(er,s')→
  Calls Tryz.prog K (#[.agg #[.int .i64 t0, .int .i64 t1, .int .i64 t2], .bool b]++caps) w fun e w'=>e= .returned (.int .i64 er)∧St W w' (res s'::rs')
theorem PL(l:List Int)(q:Nat):Vz l (q+1)=AJ (Bp l 64 q) 0:=by unfold Vz;rw [if_neg (by omega)];rfl
structure Jq(p:Prop):Prop where
 out:p
theorem MC(w0:World)(l:List Int)(p E:Int)(T:List CO)(hE:F6 p l=E)(hT:F7 p l=T)(hl:Ac l 64):
 Calls Tryz.prog 129 #[.int .i64 p, .agg (iv l)] w0 fun e w=>∃ad m c,T.length=m∧e= .returned (.tuple #[.slice ad m c, .int .i64 E])∧St w0 w [own 155 3 ad m c ((Ep T).map (Value.int .i64))]:=by
 subst hE;subst hT
 refine (Oo w0 p l hl).mono ?_
 rintro e w ⟨ad,c,rfl,hS⟩
 exact ⟨ad,_,c,rfl,rfl,hS⟩
def JH{W:World}{σ:Type}(Z:eZ W σ)(l:List Int)(n:Nat)(s0:σ)(rs':List Aq)(e:Ending)(w:World):Prop:=
 ∃s',(Be l n=0→s'=(Dq Z.step (DT l 0 n) s0).2)∧e= .returned (.int .i64 (if Be l n=0 then (Dq Z.step (DT l 0 n) s0).1 else Be l n))∧St W w (Z.res s'::rs')
theorem Sx{W w:World}{σ:Type}{Z:eZ W σ}{l:List Int}{n:Nat}{s0:σ}{rs':List Aq}(E:Int)(h1:Be l n=E)(h2:E≠0)(hS:St W w (Z.res s0::rs')):JH Z l n s0 rs' (.returned (.int .i64 E)) w:=
 ⟨s0,fun h=>absurd (h1.symm.trans h) h2,by rw [h1,if_neg h2],hS⟩
theorem Pe{W w:World}{σ:Type}{Z:eZ W σ}{l:List Int}{n:Nat}{s0 s':σ}{rs':List Aq}(er:Int)(h1:Be l n=0)(h2:Dq Z.step (DT l 0 n) s0=(er,s'))(hS:St W w (Z.res s'::rs')):JH Z l n s0 rs' (.returned (.int .i64 er)) w:=
 ⟨s',fun _=>by rw [h2],by rw [if_pos h1,h2],hS⟩
theorem Pd{W:World}{σ:Type}(Z:eZ W σ)(w0:World)(rs rs':List Aq)(s0:σ)(ad:Option Addr)(n c:Nat)(l:List Int)(hn:n≤9223372036854775807)(hv:Sl W 64 (.slice ad n c) n (l.map (Value.int .i64)))
 (hS:St W w0 rs) (hp:AU (Z.res s0) rs rs') (hok:Z.ok s0 25600):
 Calls Tryz.prog 100 #[.slice ad n c, .func (.func Z.K) #[] Z.caps] w0 (JH Z l n s0 rs'):=by
 have hl:l.length=n*64:=by have:=hv.1;simpa using this
 have HL:=AD hl
 clear hl
 replace hS:=hS.pull hp
 clear hp
 by_cases h4:400<n
 ·have HE:=AD (show Be l n=2 by unfold Be;rw [if_pos h4])
  go_enter Tryz.func100,Tryz.ntmps100
  repeat' (first
   | refine X0 ?_|refine Vw ?_|refine G6 ?_|refine AH ?_;go_step|fail)
  go_ret
  exact Sx 2 HE.out (by decide) hS
 have HE:=AD (show Be l n=if A5 l n then 0 else 1 by unfold Be;rw [if_neg h4])
 go_enter Tryz.func100,Tryz.ntmps100
 repeat' (first
  | refine X0 ?_|refine Vw ?_|refine G6 ?_|refine AH ?_;go_step|fail)
 repeat' (first
  | refine AH ?_;go_step|fail)
 go_loopg [22] n (fun gk kv w=>∃k:Nat,gk+k=n∧kv= .int .i64 k∧Hid (A5 l k=true)∧St W w (Z.res s0::rs'))
 case atStart=>exact ⟨0,rfl,rfl,AD rfl,hS⟩
 case round=>
  clear hS
  obtain ⟨k,hk,rfl,HA,hS⟩:=hrel
  by_cases hlt:k<n
  ·have ls:Ac (Bp l 64 k) 64:=CT l 64 k n HL.out hlt
   obtain ⟨B,hB⟩:∃B,Dx (Bp l 64 k)=B:=⟨_,rfl⟩
   have HB2:=AD hB
   have HT:=AD (Vl (Bp l 64 k))
   cases B
   ·have HF:=AD (RH hlt HB2.out)
    have HT1:=AD (show F6 0 (Bp l 64 k)=1 by rw [HT.out,hB];rfl)
    clear hB HT
    repeat' (first
     | (refine Al 129 ?_);refine Am AA Tryz.call129 (MC _ _ 0 1 _ HT1.out rfl ls) ?_;rintro e w ⟨a5,m5,c5,hm5,rfl,hS2⟩;replace hS:=hS.call1 hS2;clear hS2 hm5;refine AX ?_;go_step|refine X0 ?_|refine X2 ?_|refine bi 24 ?_;intro b24 o24 hl24 hc24;go_step|refine X4 ?_|refine X3 ?_|refine ZV ?_|refine KP 6 ?_;clear hS;intro g6 w hS|refine FX ?_;clear hS;intro w hS|refine AH ?_;go_step|fail)
    all_goals (try exact AQ)
    go_ret
    exact Sx 1 (by rw [HE.out,HF.out];rfl) (by decide) (hS.sub AV)
   have HT1:=AD (show F6 0 (Bp l 64 k)=0 by rw [HT.out,hB];rfl)
   clear hB HT
   repeat' (first
    | (refine Al 129 ?_);refine Am AA Tryz.call129 (MC _ _ 0 0 _ HT1.out rfl ls) ?_;rintro e w ⟨a5,m5,c5,hm5,rfl,hS2⟩;replace hS:=hS.call1 hS2;clear hS2 hm5;refine AX ?_;go_step|refine X0 ?_|refine X2 ?_|refine bi 24 ?_;intro b24 o24 hl24 hc24;go_step|refine X4 ?_|refine X3 ?_|refine ZV ?_|refine KP 6 ?_;clear hS;intro g6 w hS|refine FX ?_;clear hS;intro w hS|refine AH ?_;go_step|fail)
   repeat' (first
    | refine X1 ?_|refine X7 ?_|refine AH ?_;go_step|fail)
   all_goals (try exact AQ)
   go_roundg (gk-1)
   case measure=>omega
   case rel=>exact ⟨k+1,by omega,by go_num,AD (by rw [PH,HA.out,HB2.out];rfl),hS.sub AV⟩
  obtain rfl:k=n:=by omega
  have HE0:=AD (show Be l k=0 by rw [HE.out,HA.out];rfl)
  repeat' (first
   | refine X0 ?_|refine X2 ?_|refine AH ?_;go_step|fail)
  repeat' (first
   | refine X1 ?_|refine Vw ?_|refine AH ?_;go_step|fail)
  clear hk
  go_loopg [9,37] k (fun gk bv kv w=>∃(q:Nat) (s:σ),gk+q=k∧kv= .int .i64 q∧bv= .int .i64 (Vz l q)∧Hid (Z.ok s (25600-64*q))∧Jq (Dq Z.step (DT l 0 k) s0=Dq Z.step (DT l q (k-q)) s)∧St W w (Z.res s::rs'))
  case atStart=>exact ⟨0,s0,rfl,rfl,rfl,AD hok,⟨rfl⟩,hS⟩
  case round=>
   clear hS hok
   obtain ⟨q,s,hq,rfl,rfl,HO,HV,hS⟩:=hrel
   by_cases hlt:q<k
   ·have ls:Ac (Bp l 64 q) 64:=CT l 64 q k HL.out hlt
    obtain ⟨ht1,ht2⟩:=YS HL.out HA.out hlt
    have HT1:=AD ht1
    obtain ⟨p,hpb⟩:∃p,Vz l q=p:=⟨_,rfl⟩
    obtain ⟨T,hT⟩:∃T,Vg l q=T:=⟨_,rfl⟩
    have HT2:=AD (show F7 p (Bp l 64 q)=T by rw [←hT,←hpb];rfl)
    have HSY:=AD (show ∀t∈T,Rv t by rw [←HT2.out];exact Qj ls)
    have hTl:T.length≤64:=by rw [←HT2.out];exact Om ls
    have HV2:Jq (Dq Z.step (DT l 0 k) s0=Dq Z.step ((FO T).drop 0++DT l (q+1) (k-(q+1))) s):=⟨by rw [HV.out,show k-q=(k-(q+1))+1 by omega,DT,hT];rfl⟩
    rw [hpb] at HT1
    have HPB:=AD hpb
    rw [hpb]
    clear ht1 ht2 hT HV hpb
    repeat' (first
     | (refine Al 129 ?_);refine Am AA Tryz.call129 (MC _ _ p 0 T HT1.out HT2.out ls) ?_;rintro e w ⟨a5,m5,c5,hm5,rfl,hS2⟩;replace hS:=hS.call1 hS2;clear hS2;refine AX ?_;go_step|refine X0 ?_|refine X2 ?_|refine bi 39 ?_;intro b39 o39 hl39 hc39;go_step|refine X4 ?_|refine cu ?_|refine ZV ?_|refine KP 11 ?_;clear hS;intro g11 w hS|refine FX ?_;clear hS;intro w hS|refine AH ?_;go_step|fail)
    obtain ⟨gk1,hgk1⟩:∃x,x=gk:=⟨_,rfl⟩
    subst hgk1
    go_loopg [49] m5 (fun gk kv w=>∃(i:Nat) (s:σ),gk+i=m5∧kv= .int .i64 i∧Hid (Z.ok s (25600-64*q-i))∧Jq (Dq Z.step (DT l 0 k) s0=Dq Z.step ((FO T).drop i++DT l (q+1) (k-(q+1))) s)∧St W w (Z.res s::own 155 3 a5 m5 c5 ((Ep T).map (Value.int .i64))::arr g11 64 (Bp l 64 q)::rs'))
    case atStart=>exact ⟨0,s,rfl,rfl,HO,HV2,hS.sub AV⟩
    case round=>
     clear hS HV2 HO
     obtain ⟨i,s,hi,rfl,HO,HV,hS⟩:=hrel
     by_cases hlt2:i<m5
     ·obtain ⟨b5,rfl⟩:=Bq (a:=a5) hS AK (by omega)
      obtain ⟨⟨t0,t1,t2⟩,hx⟩:∃x,T[i]? =some x:=⟨_,List.getElem?_eq_getElem (by omega)⟩
      have hseg:=TA T i _ hx
      have HSX:=AD (HSY.out _ (List.mem_of_getElem? hx))
      have hmk:=XL hx
      dsimp only at hseg
      obtain ⟨⟨er,s'⟩,hst⟩:∃y,Z.step s (t0,t1,t2) (decide (((i:Nat):Int)=0))=y:=⟨_,rfl⟩
      obtain ⟨m,hm⟩:∃m,25600-64*q-i=m+1:=⟨25600-64*q-i-1,by omega⟩
      have ho:=HO.out
      rw [hm] at ho
      have HO1:=AD ho
      have HST:=AD hst
      have hv2:=HV.out
      rw [hmk,List.cons_append,Dq,show decide (i=0)=decide (((i:Nat):Int)=0) from decide_eq_decide.2 (by omega)] at hv2
      dsimp only at hv2
      rw [hst] at hv2
      have HO2:Hid (er=0→Z.ok s' m):=AD fun h=>by
       have:=Z.okS s m _ _ ho HSX.out (by rw [hst];exact h)
       rw [hst] at this;exact this
      have HV2:Jq (Dq Z.step (DT l 0 k) s0=if er=0 then Dq Z.step ((FO T).drop (i+1)++DT l (q+1) (k-(q+1))) s' else (er,s')):=⟨hv2⟩
      clear hx hmk hst ho hv2 HV HO
      by_cases her:er=0
      ·have HO3:=AD (HO2.out her)
       have HV3:Jq (Dq Z.step (DT l 0 k) s0=Dq Z.step ((FO T).drop (i+1)++DT l (q+1) (k-(q+1))) s'):=⟨by rw [HV2.out,if_pos her]⟩
       clear HV2 HO2
       subst her
       repeat' (first
        | (refine AP 58 ?_);refine Ad ?_;refine BS (f:=Z.K) rfl rfl Z.inv (Z.call _ _ _ s m t0 t1 t2 (decide (((i:Nat):Int)=0)) 0 s' hS AK HO1.out HSX.out HST.out) ?_;clear hS;rintro e w ⟨rfl,hS⟩;refine AX ?_;go_step|refine X0 ?_|refine X2 ?_|(refine AP 52 ?_);(refine Ap AA (V.indexSl Tryz.underlying141 OG rfl rfl BJ (by omega) rfl BK) ?_;go_step)|refine Sc ?_|refine X3 ?_|refine fO ?_|refine JO 15 ?_;clear hS;intro g15 w hS|refine JD ?_;clear hS;intro w hS|refine AH ?_;go_step|fail)
       all_goals (try exact AQ)
       repeat' (first
        | refine X1 ?_|refine X7 ?_|refine AH ?_;go_step|fail)
       go_roundg (gk-1)
       case measure=>omega
       case rel=>exact ⟨i+1,s',by omega,by go_num,AD (by rw [show 25600-64*q-(i+1)=m by omega];exact HO3.out),HV3,hS.sub AV⟩
      have HV3:Jq (Dq Z.step (DT l 0 k) s0=(er,s')):=⟨by rw [HV2.out,if_neg her]⟩
      clear HV2 HO2
      repeat' (first
       | (refine AP 58 ?_);refine Ad ?_;refine BS (f:=Z.K) rfl rfl Z.inv (Z.call _ _ _ s m t0 t1 t2 (decide (((i:Nat):Int)=0)) er s' hS AK HO1.out HSX.out HST.out) ?_;clear hS;rintro e w ⟨rfl,hS⟩;refine AX ?_;go_step|refine X0 ?_|refine X2 ?_|(refine AP 52 ?_);(refine Ap AA (V.indexSl Tryz.underlying141 OG rfl rfl BJ (by omega) rfl BK) ?_;go_step)|refine Sc ?_|refine X3 ?_|refine fO ?_|refine JO 15 ?_;clear hS;intro g15 w hS|refine JD ?_;clear hS;intro w hS|refine AH ?_;go_step|fail)
      all_goals (try exact AQ)
      go_ret
      exact Pe er HE0.out HV3.out (hS.sub AV)
     obtain rfl:i=m5:=by omega
     have HB:=AD (PL l q)
     have HV3:Jq (Dq Z.step (DT l 0 k) s0=Dq Z.step (DT l (q+1) (k-(q+1))) s):=⟨by rw [HV.out,List.drop_of_length_le (by rw [P8];omega)];rfl⟩
     have HO3:=AD (Z.okM _ _ (25600-64*(q+1)) HO.out (by omega))
     clear HV HO
     repeat' (first
      | refine X2 ?_|refine AH ?_;go_step|fail)
     repeat' (first
      | refine X0 ?_|refine dN 63 ?_|refine X7 ?_|refine cz ?_|refine AH ?_;go_step|fail)
     go_roundg (gk1-1)
     case measure=>omega
     case rel=>exact ⟨q+1,s,by omega,by go_num,by rw [HB.out],HO3,HV3,hS.sub AV⟩
   obtain rfl:q=k:=by omega
   have HV3:Jq (Dq Z.step (DT l 0 q) s0=(0,s)):=⟨by rw [HV.out,Nat.sub_self];rfl⟩
   clear HV
   repeat' (first
    | refine X8 ?_|refine X2 ?_|refine AH ?_;go_step|fail)
   repeat' (first
    | refine AH ?_;go_step|fail)
   go_ret
   exact Pe 0 HE0.out HV3.out hS
def ZE(T:TypeId)(s:Nat)(W:World)(rs:List Aq)(n:Nat)(xs:List Value)(e:Ending)(w':World):Prop:=∃ad c,e= .returned (.slice ad n c)∧St W w' (own T s ad n c xs::rs)
theorem XX(bs:List Bool)(h:0<bs.length%8):Ax (8-bs.length%8) (2^(8-bs.length%8)-1)=Bf bs:=by
 unfold Bf
 rw [Nat.mod_eq_of_lt (show 8-bs.length%8<8 by omega)]
 generalize 8-bs.length%8=k
 apply List.ext_getElem?
 intro i
 by_cases hi:i<k
 ·rw [K6 _ _ _ hi,List.getElem?_replicate,if_pos hi]
  congr 1
  have h1:2^k=2^(k-1-i)*2^(i+1):=by rw [←Nat.pow_add];congr 1;omega
  have h2:(2^k-1)/2^(k-1-i)=2^(i+1)-1:=by
   rw [h1]
   have hp:0<2^(k-1-i):=Nat.two_pow_pos _
   have hq:0<2^(i+1):=Nat.two_pow_pos _
   generalize 2^(k-1-i)=p at hp
   generalize 2^(i+1)=q at hq
   obtain ⟨q',rfl⟩:∃q',q=q'+1:=⟨q-1,by omega⟩
   rw [Nat.mul_succ,Nat.add_sub_assoc (by omega),Nat.mul_add_div hp,Nat.div_eq_of_lt (by omega)]
   omega
  rw [h2,Nat.pow_succ]
  have:0<2^i:=Nat.two_pow_pos _
  have h3:(2^i*2-1)%2=1:=by omega
  rw [h3];rfl
 rw [List.getElem?_eq_none (by rw [As];omega),List.getElem?_eq_none (by simp;omega)]
theorem Ua(W w:World)(rs rs':List Aq)(g:Nat)(bs:List Bool)(hS:St W w rs)(hp:AU (wr g bs) rs rs')(hb:bs.length≤1000000000000):
 Calls Tryz.prog 113 #[.pointer (some ⟨g,0,none⟩)] w (ZE 5 1 W rs' ((bs.length+7)/8) (bv (bytesOf bs))):=by
 obtain ⟨⟨ad,c⟩,hS⟩:=(hS.pull hp).open
 dsimp only [List.cons_append,List.nil_append] at hS
 generalize hM:bs.length%8=M at*
 by_cases h0:M=0
 ·subst h0
  go_enter Tryz.func113,Tryz.ntmps113
  go_wp2_with (first
   | ((with_reducible refine Ak _ (.load 3 _) ?_);first|(refine Bl AA (BZ hS 3 _ rfl _ _ rfl (AI rfl) _ _ AK (by omega) ?_);refine AN (by (simp only [Act.put,List.setIfInBounds_toArray,List.set_cons_zero,List.set_cons_succ]);exact rfl) ?_)|(refine Bl AA (AZ hS 3 _ rfl _ _ rfl (AI rfl) _ AK _ (by rfl) ?_);refine AN (by (simp only [Act.put,List.setIfInBounds_toArray,List.set_cons_zero,List.set_cons_succ]);exact rfl) ?_)|(refine Bl AA (Ah hS 3 _ rfl _ _ rfl (AI rfl) _ _ _ _ _ AK _ (by with_reducible assumption) ?_);refine AN (by (simp only [Act.put,List.setIfInBounds_toArray,List.set_cons_zero,List.set_cons_succ]);exact rfl) ?_)|(refine Bl AA (Aj hS 3 _ rfl _ rfl (AI rfl) _ (by with_reducible assumption) ?_);refine AN (by (simp only [Act.put,List.setIfInBounds_toArray,List.set_cons_zero,List.set_cons_succ]);exact rfl) ?_))|((with_reducible refine Ak _ (.load 35 _) ?_);first|(refine Bl AA (AZ hS 35 _ rfl _ _ rfl (AI rfl) _ AK _ (by rfl) ?_);refine AN (by (simp only [Act.put,List.setIfInBounds_toArray,List.set_cons_zero,List.set_cons_succ]);exact rfl) ?_)|(refine Bl AA (Ah hS 35 _ rfl _ _ rfl (AI rfl) _ _ _ _ _ AK _ (by with_reducible assumption) ?_);refine AN (by (simp only [Act.put,List.setIfInBounds_toArray,List.set_cons_zero,List.set_cons_succ]);exact rfl) ?_)|(refine Bl AA (Aj hS 35 _ rfl _ rfl (AI rfl) _ (by with_reducible assumption) ?_);refine AN (by (simp only [Act.put,List.setIfInBounds_toArray,List.set_cons_zero,List.set_cons_succ]);exact rfl) ?_))|(first|refine Dk ?_|refine DD ?_|refine DC ?_|refine Ei ?_))
  go_ret
  have h1:(bs.length+7)/8=bs.length/8:=by omega
  have h2:bytesOf bs=CP (bs.length/8) bs:=by
   unfold bytesOf Bf
   rw [hM,h1];simp
  rw [h1,h2]
  exact ⟨ad,c,rfl,hS.sub AV⟩
 have hM8:M<8:=by omega
 have hpos:(0:Int)<(M:Int):=by omega
 have HM:=AD hM
 clear hM h0
 obtain ⟨k,hk⟩:∃k,k=8-M:=⟨_,rfl⟩
 have hk8:k≤7:=by omega
 have e1:IntKind.i64.wrap (8-(M:Int))=(k:Int):=by simp [IntKind.wrap,IntKind.signed,IntKind.bits];omega
 have e2:(0:Int)≤(k:Int):=by omega
 have hk64:(k:Int)<64:=by omega
 have HK:=AD hk
 clear hk
 have HC:=AD (fun (w:World)(hS:St W w (blk g [.slice ad (bs.length/8) c, .int .u64 (FG (bs.drop (8*(bs.length/8))):Nat), .int .i64 (M:Nat)]::own 5 1 ad (bs.length/8) c (bv (CP (bs.length/8) bs))::rs'))=>
  (St.close (ad,c) (by simp only [List.cons_append,List.nil_append];rw [HM.out];exact hS):St W w (wr g bs::rs')))
 have HV:=AD (show 2^k-1<2^k by have:=Nat.two_pow_pos k;omega)
 have HP:=AD (show Ax k (2^k-1)=Bf bs by
  have:=XX bs (by rw [HM.out];omega)
  rwa [HM.out,←HK.out] at this)
 have HW:=AD (show wrap64 (wrap64 ((2:Int)^k)-1)=((2^k-1:Nat):Int) by
  have h1:2^k≤2^7:=Nat.pow_le_pow_right (by omega) hk8
  have h0:=Nat.two_pow_pos k
  rw [show (2:Int)^k=((2^k:Nat):Int) by push_cast;rfl]
  generalize 2^k=x at h1 h0
  unfold wrap64
  omega)
 go_enter Tryz.func113,Tryz.ntmps113
 go_wp2_with (first
  | ((with_reducible refine Ak _ (.load 3 _) ?_);first|(refine Bl AA (BZ hS 3 _ rfl _ _ rfl (AI rfl) _ _ AK (by omega) ?_);refine AN (by (simp only [Act.put,List.setIfInBounds_toArray,List.set_cons_zero,List.set_cons_succ]);exact rfl) ?_)|(refine Bl AA (AZ hS 3 _ rfl _ _ rfl (AI rfl) _ AK _ (by rfl) ?_);refine AN (by (simp only [Act.put,List.setIfInBounds_toArray,List.set_cons_zero,List.set_cons_succ]);exact rfl) ?_)|(refine Bl AA (Ah hS 3 _ rfl _ _ rfl (AI rfl) _ _ _ _ _ AK _ (by with_reducible assumption) ?_);refine AN (by (simp only [Act.put,List.setIfInBounds_toArray,List.set_cons_zero,List.set_cons_succ]);exact rfl) ?_)|(refine Bl AA (Aj hS 3 _ rfl _ rfl (AI rfl) _ (by with_reducible assumption) ?_);refine AN (by (simp only [Act.put,List.setIfInBounds_toArray,List.set_cons_zero,List.set_cons_succ]);exact rfl) ?_))|((with_reducible refine Ak _ (.load 35 _) ?_);first|(refine Bl AA (AZ hS 35 _ rfl _ _ rfl (AI rfl) _ AK _ (by rfl) ?_);refine AN (by (simp only [Act.put,List.setIfInBounds_toArray,List.set_cons_zero,List.set_cons_succ]);exact rfl) ?_)|(refine Bl AA (Ah hS 35 _ rfl _ _ rfl (AI rfl) _ _ _ _ _ AK _ (by with_reducible assumption) ?_);refine AN (by (simp only [Act.put,List.setIfInBounds_toArray,List.set_cons_zero,List.set_cons_succ]);exact rfl) ?_)|(refine Bl AA (Aj hS 35 _ rfl _ rfl (AI rfl) _ (by with_reducible assumption) ?_);refine AN (by (simp only [Act.put,List.setIfInBounds_toArray,List.set_cons_zero,List.set_cons_succ]);exact rfl) ?_))|(first|refine Dk ?_|refine DD ?_|refine DC ?_|refine Ei ?_))
 refine AR [13] (fun w=>St W w [blk g [.slice ad (bs.length/8) c, .int .u64 (FG (bs.drop (8*(bs.length/8))):Nat), .int .i64 (M:Nat)]]) AA ?_
 replace hS:=hS.drew
 apply BR 0 Ar AA AA AA (fun _ _ _ _ h=>h)
 case hfr=>intro w;go_wp2_with fail;exact ⟨rfl,rfl⟩
 case hd=>rfl
 apply BR 1 Ar AA AA AA (fun _ _ _ _ h=>h)
 case hfr=>intro w;go_wp2_with fail;exact ⟨rfl,rfl⟩
 case hd=>rfl
 apply BR 2 Ar AA AA AA (fun _ _ _ _ h=>h)
 case hfr=>intro w;go_wp2_with fail;exact ⟨rfl,rfl⟩
 case hd=>rfl
 apply BR 3 Ar AA AA AA (fun _ _ _ _ h=>h)
 case hfr=>intro w;go_wp2_with fail;exact ⟨rfl,rfl⟩
 case hd=>rfl
 apply Cr 4 Ar AA AA AA (fun _ _ _ _ h=>h) [5,13] AA (hS.sub AV)
 case hfr=>intro w hS;go_wp2_with (first|(refine Bl AA (BZ hS 3 _ rfl _ _ rfl (AI rfl) _ _ AK (by omega) ?_);refine AN (by (simp only [Act.put,List.setIfInBounds_toArray,List.set_cons_zero,List.set_cons_succ]);exact rfl) ?_)|(refine Bl AA (AZ hS 3 _ rfl _ _ rfl (AI rfl) _ AK _ (by rfl) ?_);refine AN (by (simp only [Act.put,List.setIfInBounds_toArray,List.set_cons_zero,List.set_cons_succ]);exact rfl) ?_)|(refine Bl AA (Ah hS 3 _ rfl _ _ rfl (AI rfl) _ _ _ _ _ AK _ (by with_reducible assumption) ?_);refine AN (by (simp only [Act.put,List.setIfInBounds_toArray,List.set_cons_zero,List.set_cons_succ]);exact rfl) ?_)|(refine Bl AA (Aj hS 3 _ rfl _ rfl (AI rfl) _ (by with_reducible assumption) ?_);refine AN (by (simp only [Act.put,List.setIfInBounds_toArray,List.set_cons_zero,List.set_cons_succ]);exact rfl) ?_));exact ⟨rfl,rfl⟩
 case hd=>rfl
 apply BR 5 Ar AA AA AA (fun _ _ _ _ h=>h)
 case hfr=>intro w;go_wp2_with fail;exact ⟨rfl,rfl⟩
 case hd=>rfl
 apply BR 6 Ar AA AA AA (fun _ _ _ _ h=>h)
 case hfr=>intro w;go_wp2_with fail;exact ⟨rfl,rfl⟩
 case hd=>rfl
 apply BR 7 Ar AA AA AA (fun _ _ _ _ h=>h)
 case hfr=>intro w;go_wp2_with fail;exact ⟨rfl,rfl⟩
 case hd=>rfl
 apply BR 8 Ar AA AA AA (fun _ _ _ _ h=>h)
 case hfr=>intro w;go_wp2_with fail;exact ⟨rfl,rfl⟩
 case hd=>rfl
 apply Cr 9 Ar AA AA AA (fun _ _ _ _ h=>h) [10,11,12,13] AA (hS.sub AV)
 case hfr=>intro w hS;go_wp2_with (first|(refine Bl AA (BZ hS 3 _ rfl _ _ rfl (AI rfl) _ _ AK (by omega) ?_);refine AN (by (simp only [Act.put,List.setIfInBounds_toArray,List.set_cons_zero,List.set_cons_succ]);exact rfl) ?_)|(refine Bl AA (AZ hS 3 _ rfl _ _ rfl (AI rfl) _ AK _ (by rfl) ?_);refine AN (by (simp only [Act.put,List.setIfInBounds_toArray,List.set_cons_zero,List.set_cons_succ]);exact rfl) ?_)|(refine Bl AA (Ah hS 3 _ rfl _ _ rfl (AI rfl) _ _ _ _ _ AK _ (by with_reducible assumption) ?_);refine AN (by (simp only [Act.put,List.setIfInBounds_toArray,List.set_cons_zero,List.set_cons_succ]);exact rfl) ?_)|(refine Bl AA (Aj hS 3 _ rfl _ rfl (AI rfl) _ (by with_reducible assumption) ?_);refine AN (by (simp only [Act.put,List.setIfInBounds_toArray,List.set_cons_zero,List.set_cons_succ]);exact rfl) ?_));exact ⟨rfl,rfl⟩
 case hd=>rfl
 apply BR 10 Ar AA AA AA (fun _ _ _ _ h=>h)
 case hfr=>intro w;go_wp2_with fail;exact ⟨rfl,rfl⟩
 case hd=>rfl
 apply BR 11 Ar AA AA AA (fun _ _ _ _ h=>h)
 case hfr=>intro w;go_wp2_with fail;exact ⟨rfl,rfl⟩
 case hd=>rfl
 apply BR 12 Ar AA AA AA (fun _ _ _ _ h=>h)
 case hfr=>intro w;go_wp2_with fail;exact ⟨rfl,rfl⟩
 case hd=>rfl
 refine At 13 ?_
 rw [HW.out];refine AY (f:=111) rfl Tryz.call111 (OU W _ _ _ g bs k (2^k-1) (HC.out _ hS) AU.head (by omega) HV.out (by omega)) ?_;clear hS;rintro e w ⟨rfl,hS⟩;refine ⟨_,rfl,?_⟩
 refine ⟨fun h=>absurd (by decide) h,?_⟩
 refine JS (by (simp only [Act.put,List.setIfInBounds_toArray,List.set_cons_zero,List.set_cons_succ]);exact rfl) ?_
 refine AE AA ?_ _
 obtain ⟨⟨ad2,c2⟩,hS⟩:=hS.open
 rw [HP.out] at hS
 have HL:=AD (show (bs++Bf bs).length/8=(bs.length+7)/8 by rw [GM];omega)
 simp only [List.cons_append,List.nil_append,HL.out] at hS
 go_wp2_with (first
  | ((with_reducible refine Ak _ (.load 3 _) ?_);first|(refine Bl AA (BZ hS 3 _ rfl _ _ rfl (AI rfl) _ _ AK (by omega) ?_);refine AN (by (simp only [Act.put,List.setIfInBounds_toArray,List.set_cons_zero,List.set_cons_succ]);exact rfl) ?_)|(refine Bl AA (AZ hS 3 _ rfl _ _ rfl (AI rfl) _ AK _ (by rfl) ?_);refine AN (by (simp only [Act.put,List.setIfInBounds_toArray,List.set_cons_zero,List.set_cons_succ]);exact rfl) ?_)|(refine Bl AA (Ah hS 3 _ rfl _ _ rfl (AI rfl) _ _ _ _ _ AK _ (by with_reducible assumption) ?_);refine AN (by (simp only [Act.put,List.setIfInBounds_toArray,List.set_cons_zero,List.set_cons_succ]);exact rfl) ?_)|(refine Bl AA (Aj hS 3 _ rfl _ rfl (AI rfl) _ (by with_reducible assumption) ?_);refine AN (by (simp only [Act.put,List.setIfInBounds_toArray,List.set_cons_zero,List.set_cons_succ]);exact rfl) ?_))|((with_reducible refine Ak _ (.load 35 _) ?_);first|(refine Bl AA (AZ hS 35 _ rfl _ _ rfl (AI rfl) _ AK _ (by rfl) ?_);refine AN (by (simp only [Act.put,List.setIfInBounds_toArray,List.set_cons_zero,List.set_cons_succ]);exact rfl) ?_)|(refine Bl AA (Ah hS 35 _ rfl _ _ rfl (AI rfl) _ _ _ _ _ AK _ (by with_reducible assumption) ?_);refine AN (by (simp only [Act.put,List.setIfInBounds_toArray,List.set_cons_zero,List.set_cons_succ]);exact rfl) ?_)|(refine Bl AA (Aj hS 35 _ rfl _ rfl (AI rfl) _ (by with_reducible assumption) ?_);refine AN (by (simp only [Act.put,List.setIfInBounds_toArray,List.set_cons_zero,List.set_cons_succ]);exact rfl) ?_))|(first|refine Dk ?_|refine DD ?_|refine DC ?_|refine Ei ?_))
 go_ret
 refine ⟨ad2,c2,rfl,?_⟩
 unfold bytesOf
 exact hS.sub AV
theorem eQ{W w:World}{g:Nat}{rs:List Aq}(h:St W w (blk g [.slice none 0 0, .int .u64 0, .int .i64 0]::rs)):St W w (wr g []::rs):=
 St.close (none,0) ((h.nil 5 1).pull (.tail .head))
theorem Qd{C S:List Int}(h:A4 C S=0)(s:Int):(symW (Bw C S) s).isSome=true↔s∈S:=by
 constructor
 ·intro hs
  obtain ⟨y,hy⟩:=Option.isSome_iff_exists.1 hs
  exact (Kr C S _ (FU hy)).1
 intro hs
 obtain ⟨i,hi,rfl⟩:=List.getElem_of_mem hs
 obtain ⟨y,_,e⟩:=T4 C S (B8 h).2.1 i hi
 have hm:=List.mem_of_getElem? e
 have hn:AJ S i=S[i]:=by simp [AJ,List.getD,hi]
 have:=(Bu h).symW hm
 dsimp only at this
 rw [←hn,this];rfl
theorem Oy{L:List (Int×Nat×Nat)}(h:Cs L)(s:Int):(wb L s).length≤16:=by
 unfold wb
 cases hs:symW L s with
 | none=>simp
 | some y=>
   have:=h.long _ (FU hs)
   dsimp only at this⊢
   rw [As];omega
section
variable{P:Program}{W w:World}{rs rs':List Aq}{Q:Exit→Act→World→Prop}{K:Act→World→Prop}{o:Oper}{a:Act}
theorem MH(hS:St W w rs)(d x:Operand)(tT:TypeId)(ho:o.op= .call {callee:= .builtin .copy,args:=#[d,x],argTypes:=#[tT,tT]})(e b:TypeId)(el:CG P tT e 1 b)(g q n c:Nat)(cs:List Value)(hd:a.eval d= .slice (cutAt (some ⟨g,0,none⟩) c q 1) (n-q) (c-q))(hp:AU (own e 1 (some ⟨g,0,none⟩) n c cs) rs rs')
 (v:Value) (hx:a.eval x=v) (m:Nat) (news:List Value) (hm:Sl w 1 v m news) (hq:q+m≤n) (h1:∀u∈news,u.oneCell'=true)
 (h:∀w',St W w' (own e 1 (some ⟨g,0,none⟩) n c (cs.take q++news++cs.drop (q+m))::rs')→K (a.put o.dst (.int .i64 m)) w'):o.wp P a w K Q:=by
 obtain ⟨ht,⟨i,z,hi,hz,hsz,hby,hzs⟩,hpos⟩:=el
 have hs1:(P.info? e).map (·.size)=some 1:=by rw [hi];simp [hsz]
 have hown:=hS.own hp
 obtain ⟨hl,aa,cc,rfl,hmc,hcm,hor⟩:=hm
 have hlm:news.length=m:=by simpa using hl
 by_cases hm0:m=0
 ·subst hm0
  have hnil:news=[]:=List.eq_nil_of_length_eq_zero hlm
  subst hnil
  have hr:=run_copy_none (P:=P) w tT tT o.type e (cutAt (some ⟨g,0,none⟩) c q 1) aa (n-q) (c-q) 0 cc ht hs1 (Nat.zero_min _)
  have hk:=h w (by
   have e1:cs.take q++[]++cs.drop (q+0)=cs:=by simp
   rw [e1];exact hS.pull hp)
  unfold Oper.wp execOp
  simp only [ho,resolve,invoke,builtin,Sem.run_bind,Sem.run_pure,Result.andThen_ok,List.map_toArray,List.map_cons,List.map_nil,hd,hx,hr]
  exact hk
 rcases hor with h0|⟨bb,off,rfl,hcells⟩
 ·exact absurd h0 hm0
 rcases hown.2 with ⟨h2,_⟩|⟨g',cap,cur,h2,_,hg,hnc,hcm2,hcs,htake⟩
 ·cases h2
 cases h2
 have hcq:¬(c=q):=by omega
 have hd2:a.eval d= .slice (some ⟨g,q,none⟩) (n-q) (c-q):=by
  rw [hd,cutAt,if_neg hcq]
  simp only [Option.map_some,Addr.add_mid,Nat.zero_add,Nat.mul_one]
 have hsrc:∀j u,news[j]? =some u→w.cell? ((⟨bb,off,none⟩:Addr).add j)=some u:=fun j u hu=>by
  have hj:j<m*1:=by rw [←hl];exact (List.getElem?_eq_some_iff.1 hu).1
  rw [Addr.add_mid,hcells j hj,hu]
 have hr:=run_copy_row (P:=P) w tT tT o.type e g q (n-q) (c-q) ⟨bb,off,none⟩ m cc cur e news ht hs1 hg (by rw [hlm];exact (Nat.min_eq_left (by omega)).symm) hsrc (by rw [hlm,hcs];omega) h1
 have hxl:cs.length=n:=by have:=hown.1;simpa using this
 have htl:cur.toList.take n=cs:=by have:=htake;rwa [Nat.mul_one] at this
 have hcl:cur.toList.length=c:=by rw [Array.length_toList,hcs,Nat.mul_one]
 have hnew:(cur.toList.take q++news++cur.toList.drop (q+m)).take n=cs.take q++news++cs.drop (q+m):=by
  have a1:cur.toList.take q=cs.take q:=by rw [←htl,List.take_take,Nat.min_eq_left (by omega)]
  have a2:(cur.toList.drop (q+m)).take (n-(q+m))=cs.drop (q+m):=by rw [←htl,List.drop_take]
  have a3:(cur.toList.take q++news).length=q+m:=by rw [List.length_append,hlm,List.length_take,hcl];omega
  rw [List.take_append,List.take_of_length_le (by omega),a3,a2,a1]
 have hst:St W (w.setRow g (cur.toList.take q++news++cur.toList.drop (q+news.length)).toArray) ([own e 1 (some ⟨g,0,none⟩) n c (cs.take q++news++cs.drop (q+m))]++rs'):=by
  refine St.change (hS.pull hp) fun f1 k1 hf1 hn1=>?_
  obtain ⟨rfl,k1⟩:=k1
  refine ⟨[g],⟨[g],[],by simp,⟨rfl,?_, .inr ⟨g,c,_,rfl,Nat.zero_le _,setRow_heap w g cur _ e _ hg,hnc,hcm2,?_,?_⟩⟩,rfl⟩,by simp,fun b hb=> .inl hb,ES.setRow w g _⟩
  ·simp only [List.length_append,List.length_take,List.length_drop,hlm,hxl];omega
  ·simp only [List.size_toArray,List.length_append,List.length_take,List.length_drop,hlm,hcl];omega
  rw [hlm,Nat.mul_one];simpa using hnew
 have hk:=h _ hst
 unfold Oper.wp execOp
 simp only [ho,resolve,invoke,builtin,Sem.run_bind,Sem.run_pure,Result.andThen_ok,List.map_toArray,List.map_cons,List.map_nil,hd2,hx,hr,hlm]
 rw [hlm] at hk
 exact hk
end
structure B4(p:Prop):Prop where
 out:p
def pre(sep:List Int)(ps:List (List Int))(k:Nat):List Int:=(ps.take k).flatMap (· ++sep)
theorem Ir(sep:List Int)(ps:List (List Int))(k:Nat)(h:k<ps.length):pre sep ps (k+1)=pre sep ps k++(ps[k]++sep):=by
 simp only [pre,List.take_succ_eq_append_getElem h,List.flatMap_append,List.flatMap_cons,List.flatMap_nil,List.append_nil]
theorem OS(sep:List Int)(ps:List (List Int))(j k:Nat)(h:j≤k):(pre sep ps j).length≤(pre sep ps k).length:=by
 have e:ps.take k=ps.take j++(ps.take k).drop j:=by
  conv=>lhs;rw [←List.take_append_drop j (ps.take k)]
  rw [List.take_take,Nat.min_eq_left h]
 simp only [pre]
 rw [e,List.flatMap_append,List.length_append]
 omega
theorem OT(old new:List Int)(ps:List (List Int)):∀k,k≤ps.length→(pre new ps k).length+k*old.length=(pre old ps k).length+k*new.length
 | 0,_=>by simp [pre]
 | k+1,h=>by
   rw [Ir new ps k (by omega),Ir old ps k (by omega)]
   simp only [List.length_append]
   have:=OT old new ps k (by omega)
   rw [Nat.add_mul,Nat.add_mul]
   omega
theorem Jd(sep:List Int)(ps:List (List Int))(k m:Nat)(hm:ps.length=m)(h:k<ps.length):∃T,pre sep ps m=pre sep ps k++(ps[k]++(sep++T)):=by
 refine ⟨(ps.drop (k+1)).flatMap (· ++sep),?_⟩
 have e:ps=ps.take k++(ps[k]::ps.drop (k+1)):=by rw [List.getElem_cons_drop,List.take_append_drop]
 unfold pre
 rw [←hm,List.take_length]
 conv=>lhs;rw [e]
 rw [List.flatMap_append,List.flatMap_cons,List.append_assoc]
theorem Lu(X p:List Int)(L B z:Nat)(hX:X.length=B)(hp:p.length=z)(h:B+z≤L):((X++List.replicate (L-B) 0).map (Value.int .u8)).take B++p.map (Value.int .u8)++((X++List.replicate (L-B) 0).map (Value.int .u8)).drop (B+z)=((X++p)++List.replicate (L-(B+z)) 0).map (Value.int .u8):=by
 subst hX
 subst hp
 rw [←List.map_take,←List.map_drop,←List.map_append,←List.map_append,List.take_left' rfl,←List.drop_drop,List.drop_left' rfl,List.drop_replicate,Nat.sub_sub]
theorem PW(g c:Nat):cutAt (some ⟨g,0,none⟩) c 0 1=some ⟨g,0,none⟩:=by
 unfold cutAt
 split
 ·rfl
 rw [Option.map_some,Addr.add_mid]
theorem J9(w0:World)(a po pn:Option Addr)(n c lo co ln cn m:Nat)(ps:List (List Int))(last old new:List Int)(hm:ps.length=m)
 (hs:Sl w0 1 (.slice a n c) n ((pre old ps m++last).map (Value.int .u8))) (ho:Sl w0 1 (.slice po lo co) lo (old.map (Value.int .u8))) (hw:Sl w0 1 (.slice pn ln cn) ln (new.map (Value.int .u8)))
 (hlo:0<lo) (hb1:n≤1000000000) (hb2:lo≤1000) (hb3:ln≤1000)
 (HC:B4 (∀w,Af w0 w→Calls Tryz.prog 141 #[.slice a n c, .slice po lo co] w fun e w'=>e= .returned (.int .i64 m)∧Af w w'))
 (HI:B4 (∀k (h:k<ps.length) w,Af w0 w→Calls Tryz.prog 142 #[.slice (cutAt a c (pre old ps k).length 1) (n-(pre old ps k).length) (c-(pre old ps k).length), .slice po lo co] w fun e w'=>e= .returned (.int .i64 (ps[k].length:Nat))∧Af w w')):
 Calls Tryz.prog 135 #[.slice a n c, .slice po lo co, .slice pn ln cn, .int .i64 (-1)] w0 fun e w=>∃(ao:Option Addr) (c':Nat),e= .returned (.slice ao (pre new ps m++last).length c')∧St w0 w [own 5 1 ao (pre new ps m++last).length c' ((pre new ps m++last).map (Value.int .u8))]:=by
 have hS:=St.start w0
 have hxl:(pre old ps m++last).length=n:=by have:=hs.1;simpa using this
 have hol:old.length=lo:=by have:=ho.1;simpa using this
 have hnl:new.length=ln:=by have:=hw.1;simpa using this
 have hnc:n≤c:=by obtain ⟨_,_,_,h1,h2,_⟩:=hs;cases h1;exact h2
 have hc9:c≤9223372036854775807:=by obtain ⟨_,_,_,h1,_,h2,_⟩:=hs;cases h1;unfold maxLen at h2;exact h2
 have hpl:=OT old new ps m (by omega)
 rw [hol,hnl] at hpl
 rw [List.length_append] at hxl
 obtain ⟨L,hL⟩:∃L,(pre new ps m++last).length=L:=⟨_,rfl⟩
 have hL2:=hL
 rw [List.length_append] at hL2
 have hmlo:m≤m*lo:=Nat.le_mul_of_pos_right m hlo
 have hmn:m≤n:=by
  have:m*lo≤(pre old ps m).length:=by
   have h0:=OT old [] ps m (by omega)
   rw [hol] at h0
   simp only [List.length_nil,Nat.mul_zero,Nat.add_zero] at h0
   omega
  omega
 by_cases h0:m=0
 ·subst h0
  have e0:pre old ps 0++last=pre new ps 0++last:=by simp [pre]
  rw [e0] at hs
  obtain ⟨R,hR⟩:∃R,pre new ps 0++last=R:=⟨_,rfl⟩
  rw [hR] at hL hs⊢
  rw [hL]
  have hLn:L=n:=by have:=hs.1;rw [←hL];simpa using this
  subst hLn
  clear hpl hL2 HI hmlo hxl e0
  go_enter Tryz.func135,Tryz.ntmps135
  repeat' (first
   | (refine Al 141 ?_);refine Am AA Tryz.call141 (HC.out _ hS.1) (EW hS ?_);clear hS;intro w hS;go_step|refine X0 ?_|refine KR ?_|refine Sc ?_|(refine AP 25 ?_);(refine Ad ?_;apply A7 (o:=⟨some 25,_,_,_,_,_⟩) (hS.nilk 5 1 .u8) _ _ 35 rfl 5 1 1 Hs _ _ _ _ rfl;(case hp=>exact AK);(case hx=>exact rfl);(case hm=>(first|exact hS.slBlk AK (by rfl) (by decide)|exact hS.sl AK|with_reducible assumption|exact Sl.ext (by with_reducible assumption) hS.1|exact Sl.nil _ _|exact Sl.ext (by assumption) hS.1|assumption));(case h1=>(first|exact Cd rfl|exact CE _ _|(intro u hu;cases hu)));(case h63=>unfold maxLen;omega);(case hb=>omega);clear hS;intro ad25 c25 w hS;(first|simp only [DX] at hS|simp only [DY] at hS|simp only [DZ] at hS|simp only [Da] at hS|simp only [Db] at hS|skip);refine AC ?_;go_step)|refine AH ?_;go_step|fail)
  rw [Nat.zero_add,List.nil_append] at hS
  go_ret
  refine ⟨ad25,c25,?_,hS.sub AV⟩
  show Ending.returned (.slice ad25 (0+L) c25)=_
  rw [Nat.zero_add]
 have hLb:L≤2000000000000:=by
  have:m*ln≤1000000000*1000:=Nat.mul_le_mul (by omega) hb3
  omega
 have hLe:(L:Int)=(n:Int)+(m:Int)*((ln:Int)-(lo:Int)):=by
  have h1:((m:Int)*((ln:Int)-(lo:Int)))=((m*ln:Nat):Int)-((m*lo:Nat):Int):=by push_cast;rw [Int.mul_sub]
  rw [h1];omega
 have hmul:IntKind.i64.wrap ((m:Int)*((ln:Int)-(lo:Int)))=(L:Int)-(n:Int):=by
  rw [show (m:Int)*((ln:Int)-(lo:Int))=(L:Int)-(n:Int) by omega]
  exact IntWalk.i64_in _ (by omega)
 have HMul:=AD hmul
 have HXs:∀k,k≤m→(pre old ps k).length≤n:=fun k hk=>by have:=OS old ps k m hk;omega
 have HWs:∀k,k≤m→(pre new ps k).length≤L:=fun k hk=>by have:=OS new ps k m hk;omega
 have HXs2:B4 _:=⟨HXs⟩
 have HWs2:B4 _:=⟨HWs⟩
 have HL:B4 ((pre new ps m++last).length=L):=⟨hL⟩
 obtain ⟨R,hR⟩:∃R,pre new ps m++last=R:=⟨_,rfl⟩
 have HR:B4 (pre new ps m++last=R):=⟨hR⟩
 rw [hR] at hL⊢
 rw [hL]
 have HXL:B4 ((pre old ps m).length+last.length=n):=⟨hxl⟩
 have HWL:B4 ((pre new ps m).length+last.length=L):=⟨hL2⟩
 have HM:B4 (ps.length=m):=⟨hm⟩
 have HPL:B4 _:=⟨hpl⟩
 clear hpl hxl hL2 hmlo hLe hmul HXs HWs hR hm
 go_enter Tryz.func135,Tryz.ntmps135
 repeat' (first
  | (refine Al 141 ?_);refine Am AA Tryz.call141 (HC.out _ hS.1) (EW hS ?_);clear hS;intro w hS;go_step|(refine AP 42 ?_);refine Ag (.int .i64 ((L:Int)-(n:Int))) (V.as (V.mul rfl rfl) (by have:=HMul.out;first|exact this|(rw [IntWalk.i64_in _ (by omega)];exact this))) AA ?_;go_step|(refine AP 43 ?_);(refine Ag (.int _ (((L:Nat):Int))) (V.as (V.addI rfl rfl (by omega)) (by omega)) (by kernel_rfl) ?_;go_step)|go_skip|refine X0 ?_|refine Eu ?_|refine Es 27 ?_ ?_<;>intro hB<;>(try exact AQ)<;>go_step|refine KR ?_|refine Sc ?_|refine bm ?_|refine Zn ?_|refine G6 ?_|(refine AP 44 ?_);(refine Ad ?_;apply Kt (o:=⟨some 44,_,_,_,_,_⟩) hS 35 _ _ rfl _ _ _ _ fh _ _ _ _ _ _ rfl rfl;(case hi=>exact BJ);(case hj=>exact BJ);(case hnm=>omega);(case hb=>omega);(case h63=>unfold maxLen;omega);clear hS;intro g44 w hS;refine AC ?_;go_step)|refine AH ?_;go_step|fail)
 go_loopg [11,12,49] m (fun gk wv sv iv w=>∃k:Nat,gk+k=m∧iv= .int .i64 k∧sv= .int .i64 ((pre old ps k).length:Nat)∧wv= .int .i64 ((pre new ps k).length:Nat)∧St w0 w [own 5 1 (some ⟨g44,0,none⟩) L L ((pre new ps k++List.replicate (L-(pre new ps k).length) 0).map (Value.int .u8))])
 case atStart=>
  refine ⟨0,rfl,rfl,rfl,rfl,?_⟩
  rw [Nat.mul_one] at hS
  have e:pre new ps 0=[]:=rfl
  rw [e,List.nil_append,List.length_nil,Nat.sub_zero]
  exact hS.sub AV
 case round=>
  clear hS
  obtain ⟨k,hk,rfl,rfl,rfl,hS⟩:=hrel
  by_cases hlt:k<m
  ·have hkp:k<ps.length:=by rw [HM.out];exact hlt
   have hIk:=HI.out k hkp
   have e1:=Ir old ps k hkp
   have e2:=Ir new ps k hkp
   have l1:=HXs2.out (k+1) hlt
   have l2:=HWs2.out (k+1) hlt
   obtain ⟨p,hp⟩:∃p,ps[k]=p:=⟨_,rfl⟩
   rw [hp] at hIk e1 e2
   rw [e1] at l1
   rw [e2] at l2
   obtain ⟨T,hT⟩:=Jd old ps k m HM.out hkp
   rw [hp] at hT
   have hxs:pre old ps m++last=pre old ps k++(p++(old++T++last)):=by rw [hT];simp only [List.append_assoc]
   obtain ⟨A,hA⟩:∃A,(pre old ps k).length=A:=⟨_,rfl⟩
   obtain ⟨X,hX⟩:∃X,pre new ps k=X:=⟨_,rfl⟩
   rw [hX] at e2 l2 hS⊢
   obtain ⟨B,hB⟩:∃B,X.length=B:=⟨_,rfl⟩
   obtain ⟨z,hz⟩:∃z,p.length=z:=⟨_,rfl⟩
   simp only [List.length_append,hA,hB,hz,hol,hnl] at l1 l2
   rw [hA,hz] at hIk
   rw [hA]
   rw [hB] at hS⊢
   have hsp:∀w,Af w0 w→Sl w 1 (.slice (cutAt a c A 1) (A+z-A) (c-A)) (A+z-A) (p.map (Value.int .u8)):=fun w hx=>by
    have h1:=(hs.ext hx).cutAt A (A+z) (by omega) (by omega)
    have h2:(((pre old ps m++last).map (Value.int .u8)).drop (A*1)).take ((A+z-A)*1)=p.map (Value.int .u8):=by
     rw [Nat.mul_one,Nat.mul_one,←List.map_drop,←List.map_take,hxs,List.drop_left' hA,Nat.add_sub_cancel_left,List.take_left' hz]
    rw [h2] at h1
    exact h1
   have HIK:B4 _:=⟨hIk⟩
   have HSP:B4 _:=⟨hsp⟩
   have F1:=AD (Lu X p L B z hB hz (by omega))
   have F2:=AD (Lu (X++p) new L (B+z) ln (by rw [List.length_append,hB,hz]) hnl (by omega))
   have N1:B4 ((pre old ps (k+1)).length=A+z+lo):=⟨by rw [e1];simp only [List.length_append,hA,hz,hol];omega⟩
   have N2:B4 (pre new ps (k+1)=X++p++new):=⟨by rw [e2,List.append_assoc]⟩
   have N3:B4 ((X++p++new).length=B+z+ln):=⟨by simp only [List.length_append,hB,hz,hnl]⟩
   clear hIk hsp e1 e2 hp hxs hT hA hX hB hz hkp
   repeat' (first
    | (refine Al 142 ?_);refine Am AA Tryz.call142 (HIK.out _ hS.1) (EW hS ?_);clear hS;intro w hS;go_step|(refine AP 57 ?_);(refine Ag (.int _ (((A+z:Nat):Int))) (V.as (V.addI rfl rfl (by omega)) (by omega)) (by kernel_rfl) ?_;go_step)|refine X0 ?_|refine X2 ?_|refine ZZ ?_|refine AH ?_;go_step|fail)
   refine AR [] (fun _=>True) AA ?_
   replace hS:=hS.drew
   focus
    refine Ab 0 ?_
    refine Ab 1 ?_
    refine Ab 2 ?_
    refine gS 3 ?_
    refine Ab 4 ?_
    refine Ab 5 ?_
    refine Ab 6 ?_
    refine gS 7 ?_
    refine At 8 ?_
    refine MH (o:=⟨some 66,_,_,_,_,_⟩) hS _ _ 35 rfl 5 1 Hs g44 B L L _ rfl AK _ rfl (A+z-A) _ (HSP.out _ hS.1) (by omega) (by exact CE _ _) ?_;clear hS;intro w hS;rw [Nat.add_sub_cancel_left,F1.out] at hS
    refine gU ?_;go_step
    (refine Bt 9 (.int _ (((B+z:Nat):Int))) Ar AA AA AA Cp (V.as (V.addI rfl rfl (by omega)) (by omega)) AA ?_)
    go_step
    refine Ab 10 ?_
    refine AE AA ?_ _
   repeat' (first
    | (refine AP 73 ?_);refine Ad ?_;refine MH (o:=⟨some 73,_,_,_,_,_⟩) hS _ _ 35 rfl 5 1 Hs g44 (B+z) L L _ rfl AK _ rfl ln _ (hw.ext hS.1) (by omega) (by exact CE _ _) ?_;clear hS;intro w hS;rw [F2.out] at hS;refine AC ?_;go_step|(refine AP 74 ?_);(refine Ag (.int _ (((B+z+ln:Nat):Int))) (V.as (V.addI rfl rfl (by omega)) (by omega)) (by kernel_rfl) ?_;go_step)|(refine AP 78 ?_);(refine Ag (.int _ (((A+z+lo:Nat):Int))) (V.as (V.addI rfl rfl (by omega)) (by omega)) (by kernel_rfl) ?_;go_step)|refine X0 ?_|refine ZZ ?_|refine X7 ?_|refine bm ?_|refine AH ?_;go_step|fail)
   go_roundg (gk-1)
   case measure=>omega
   case rel=>
    refine ⟨k+1,by omega,by go_num,by rw [N1.out],by rw [N2.out,N3.out],?_⟩
    rw [N2.out,N3.out]
    exact hS.sub AV
  obtain rfl:k=m:=by omega
  have hA0:=HXL.out
  have hB0:=HWL.out
  obtain ⟨A,hA⟩:∃A,(pre old ps k).length=A:=⟨_,rfl⟩
  obtain ⟨B,hB⟩:∃B,(pre new ps k).length=B:=⟨_,rfl⟩
  obtain ⟨z,hz⟩:∃z,last.length=z:=⟨_,rfl⟩
  rw [hA,hz] at hA0
  rw [hB,hz] at hB0
  rw [hA]
  rw [hB] at hS⊢
  have hsp:∀w,Af w0 w→Sl w 1 (.slice (cutAt a c A 1) (n-A) (c-A)) (n-A) (last.map (Value.int .u8)):=fun w hx=>by
   have h1:=(hs.ext hx).cutAt A n (by omega) (Nat.le_refl _)
   have h2:(((pre old ps k++last).map (Value.int .u8)).drop (A*1)).take ((n-A)*1)=last.map (Value.int .u8):=by
    rw [Nat.mul_one,Nat.mul_one,←List.map_drop,←List.map_take,List.drop_left' hA,List.take_of_length_le (by omega)]
   rw [h2] at h1
   exact h1
  have HSP:B4 _:=⟨hsp⟩
  have hnA:n-A=z:=by omega
  have HnA:B4 (n-A=z):=⟨hnA⟩
  have F1:=AD (Lu (pre new ps k) last L B z hB hz (by omega))
  have F3:B4 (pre new ps k++last++List.replicate (L-(B+z)) 0=R):=⟨by rw [HR.out,show L-(B+z)=0 by omega];simp⟩
  clear hsp hA hB hz hnA
  repeat' (first
   | refine X2 ?_|refine AH ?_;go_step|fail)
  refine AR [] (fun _=>True) AA ?_
  replace hS:=hS.drew
  focus
   refine Ab 0 ?_
   refine Ab 1 ?_
   refine Ab 2 ?_
   refine gS 3 ?_
   refine Ab 4 ?_
   refine Ab 5 ?_
   refine gS 6 ?_
   refine At 7 ?_
   refine MH (o:=⟨some 127,_,_,_,_,_⟩) hS _ _ 35 rfl 5 1 Hs g44 B L L _ rfl AK _ rfl (n-A) _ (HSP.out _ hS.1) (by omega) (by exact CE _ _) ?_;clear hS;intro w hS;rw [HnA.out,F1.out,F3.out] at hS
   refine gU ?_;go_step
   (refine Bt 8 (.int _ (((L:Nat):Int))) Ar AA AA AA Cp (V.as (V.addI rfl rfl (by omega)) (by omega)) AA ?_)
   go_step
   refine Ab 9 ?_
   refine AE AA ?_ _
  repeat' (first
   | refine X0 ?_|refine ZZ ?_|refine AH ?_;go_step|fail)
  go_ret
  refine ⟨some ⟨g44,0,none⟩,L,?_,hS.sub AV⟩
  show Ending.returned (.slice (cutAt (some ⟨g44,0,none⟩) L 0 1) (L-0) (L-0))=_
  rw [PW]
  rfl
def G4(b:Int):List Int→List (List Int)×List Int
 | []=>([],[])
 | x::l=>if x=b then ([]::(G4 b l).1,(G4 b l).2) else
   match (G4 b l).1 with
   | []=>([],x::(G4 b l).2)
   | p::ps=>((x::p)::ps,(G4 b l).2)
def H6(b:Int)(new l:List Int):List Int:=l.flatMap fun x=>if x=b then new else [x]
theorem Te(sep:List Int)(ps:List (List Int)):pre sep ps ps.length=ps.flatMap (· ++sep):=by simp [pre]
theorem Iy(b:Int)(new:List Int):∀l,(G4 b l).1.flatMap (· ++[b])++(G4 b l).2=l∧(G4 b l).1.flatMap (· ++new)++(G4 b l).2=H6 b new l∧(G4 b l).1.length=l.count b∧(∀p∈(G4 b l).1,b∉p)
 | []=>by simp [G4,H6]
 | x::l=>by
   obtain ⟨h1,h2,h3,h4⟩:=Iy b new l
   by_cases hx:x=b
   ·subst hx
    refine ⟨?_,?_,?_,?_⟩
    ·simp only [G4,if_true,List.flatMap_cons,List.nil_append,List.cons_append,h1]
    ·simp only [G4,if_true,List.flatMap_cons,List.nil_append,List.append_assoc,h2];simp [H6]
    ·simp [G4,h3]
    intro p hp
    simp only [G4,if_true,List.mem_cons] at hp
    rcases hp with rfl|hp
    ·simp
    exact h4 p hp
   cases hs:(G4 b l).1 with
   | nil=>
     rw [hs] at h1 h2 h3
     simp only [List.flatMap_nil,List.nil_append] at h1 h2
     refine ⟨?_,?_,?_,?_⟩
     ·simp [G4,if_neg hx,hs,h1]
     ·simp only [G4,if_neg hx,hs,List.flatMap_nil,List.nil_append,h2];simp [H6,hx]
     ·simp only [G4,if_neg hx,hs,List.length_nil];rw [List.count_cons_of_ne (by simpa using hx)];simpa using h3
     simp [G4,if_neg hx,hs]
   | cons p ps=>
     rw [hs] at h1 h2 h3 h4
     refine ⟨?_,?_,?_,?_⟩
     ·simp only [G4,if_neg hx,hs,List.flatMap_cons,List.cons_append] at h1⊢;rw [h1]
     ·simp only [G4,if_neg hx,hs,List.flatMap_cons,List.cons_append] at h2⊢;rw [h2];simp [H6,hx]
     ·simp only [G4,if_neg hx,hs,List.length_cons] at h3⊢;rw [List.count_cons_of_ne (by simpa using hx)];exact h3
     intro q hq
     simp only [G4,if_neg hx,hs,List.mem_cons] at hq
     rcases hq with rfl|hq
     ·have:=h4 p (by simp);simp only [List.mem_cons,not_or];exact ⟨fun e=>hx e.symm,this⟩
     exact h4 q (by simp [hq])
theorem cQ{x b:Int}(hx:0≤x∧x<256)(hb:0≤b∧b<256):(UInt8.ofNat x.toNat==UInt8.ofNat b.toNat)=decide (x=b):=by
 by_cases h:x=b
 ·subst h;simp
 rw [decide_eq_false h,beq_eq_false_iff_ne]
 intro e
 have:=congrArg UInt8.toNat e
 simp only [UInt8.toNat_ofNat'] at this
 omega
theorem Jw{b:Int}(hb:0≤b∧b<256):∀(l:List Int),(∀x∈l,0≤x∧x<256)→Lib.countByte (Lib.bytesOf l) (UInt8.ofNat b.toNat)=l.count b
 | [],_=>rfl
 | x::l,h=>by
   have ih:=Jw hb l fun y hy=>h y (by simp [hy])
   have hx:=cQ (h x (by simp)) hb
   simp only [Lib.countByte,Lib.bytesOf,List.map_cons,List.count_cons] at ih⊢
   rw [ih,hx]
   by_cases e:x=b<;>simp [e]
theorem J1{b:Int}(hb:0≤b∧b<256):∀(p T:List Int),(∀x∈p,0≤x∧x<256)→b∉p→Lib.indexByte (Lib.bytesOf (p++b::T)) (UInt8.ofNat b.toNat)=(p.length:Nat)
 | [],T,_,_=>by simp [Lib.bytesOf,Lib.indexByte]
 | x::p,T,h,hn=>by
   have ih:=J1 hb p T (fun y hy=>h y (by simp [hy])) (fun e=>hn (by simp [e]))
   have hx:=cQ (h x (by simp)) hb
   have hxb:x≠b:=fun e=>hn (by simp [e])
   rw [decide_eq_false hxb] at hx
   simp only [List.cons_append,Lib.bytesOf,List.map_cons,Lib.indexByte] at ih⊢
   rw [hx,ih]
   simp only [Bool.false_eq_true,if_false,List.length_cons]
   rw [if_neg]
   ·push_cast;omega
   simp only [beq_iff_eq];omega
theorem Ge{w:World}{a:Addr}{n c:Nat}{xs:List Int}(hv:Sl w 1 (.slice (some a) n c) n (xs.map (Value.int .u8))):∀i,i<n→w.cell? (a.add i)=some (.int .u8 (xs.getD i 0)):=fun i hi=>by
 obtain ⟨hl,a1,c1,e1,hnc,hcm,hor⟩:=hv
 cases e1
 have hln:xs.length=n:=by simpa using hl
 rcases hor with h0|⟨b,off,h,hc⟩
 ·omega
 cases h
 rw [Addr.add_mid,hc i (by omega)]
 simp [List.getD,hln,hi]
theorem QG{w:World}{po:Option Addr}{co:Nat}{b:Int}(hv:Sl w 1 (.slice po 1 co) 1 ([b].map (Value.int .u8))):∃b2 o2,po=some ⟨b2,o2,none⟩∧w.cell? ⟨b2,o2,none⟩=some (.int .u8 b):=by
 obtain ⟨hl,a1,c1,e1,hnc,hcm,hor⟩:=hv
 cases e1
 rcases hor with h0|⟨b2,off,h,hc⟩
 ·omega
 exact ⟨b2,off,h,by have:=hc 0 (by decide);simpa using this⟩
theorem cR{b:Int}:b.toNat.toUInt8=UInt8.ofNat b.toNat:=rfl
theorem RP(w:World)(a po:Option Addr)(n c co:Nat)(xs:List Int)(b:Int)(hs:Sl w 1 (.slice a n c) n (xs.map (Value.int .u8)))(hnil:a=none→c=0)(ho:Sl w 1 (.slice po 1 co) 1 ([b].map (Value.int .u8)))(hb:0≤b∧b<256)(hx:∀x∈xs,0≤x∧x<256):
 Calls Tryz.prog 141 #[.slice a n c, .slice po 1 co] w fun e w'=>e= .returned (.int .i64 (xs.count b:Nat))∧Af w w':=by
 obtain ⟨b2,o2,rfl,hc2⟩:=QG ho
 have hln:xs.length=n:=by have:=hs.1;simpa using this
 cases a with
 | none=>
   have hc0:=hnil rfl
   subst hc0
   have hn0:n=0:=by obtain ⟨_,_,_,h1,h2,_⟩:=hs;cases h1;omega
   subst hn0
   have hxs:xs=[]:=List.eq_nil_of_length_eq_zero hln
   subst hxs
   exact (Tryz.bytes_Count_one_nil b2 o2 co b w hc2).mono fun e w' ⟨h1,h2⟩=>⟨h1,h2▸ Af.refl _⟩
 | some a=>
   exact (Tryz.bytes_Count_one_at a n c b2 o2 co xs b w hln (Ge hs) hc2).mono fun e w' ⟨h1,h2⟩=>⟨by rw [h1,cR,Jw hb xs hx],h2▸ Af.refl _⟩
theorem Ri(w:World)(a po:Option Addr)(n c co:Nat)(p T:List Int)(b:Int)(hs:Sl w 1 (.slice a n c) n ((p++b::T).map (Value.int .u8)))(ho:Sl w 1 (.slice po 1 co) 1 ([b].map (Value.int .u8)))(hb:0≤b∧b<256)(hx:∀x∈p,0≤x∧x<256)(hp:b∉p):
 Calls Tryz.prog 142 #[.slice a n c, .slice po 1 co] w fun e w'=>e= .returned (.int .i64 (p.length:Nat))∧Af w w':=by
 obtain ⟨b2,o2,rfl,hc2⟩:=QG ho
 have hln:(p++b::T).length=n:=by have:=hs.1;simpa using this
 cases a with
 | none=>
   obtain ⟨_,_,_,h1,h2,h3,h4⟩:=hs
   cases h1
   rcases h4 with h4|⟨_,_,h4,_⟩
   ·rw [List.length_append,List.length_cons] at hln;omega
   cases h4
 | some a=>
   exact (Tryz.bytes_Index_one_at a n c b2 o2 co (p++b::T) b w hln (Ge hs) hc2).mono fun e w' ⟨h1,h2⟩=>⟨by rw [h1,cR,J1 hb p T hx hp],h2▸ Af.refl _⟩
theorem Lr(w0:World)(a po pn:Option Addr)(n c co ln cn:Nat)(xs new:List Int)(b:Int)(hs:Sl w0 1 (.slice a n c) n (xs.map (Value.int .u8)))(hnil:a=none→c=0)(ho:Sl w0 1 (.slice po 1 co) 1 ([b].map (Value.int .u8)))(hw:Sl w0 1 (.slice pn ln cn) ln (new.map (Value.int .u8)))
 (hb:0≤b∧b<256) (hx:∀x∈xs,0≤x∧x<256) (hb1:n≤1000000000) (hb3:ln≤1000):
 Calls Tryz.prog 119 #[.slice a n c, .slice po 1 co, .slice pn ln cn] w0 fun e w=>∃(ao:Option Addr) (c':Nat),e= .returned (.slice ao (H6 b new xs).length c')∧St w0 w [own 5 1 ao (H6 b new xs).length c' ((H6 b new xs).map (Value.int .u8))]:=by
 obtain ⟨h1,h2,h3,h4⟩:=Iy b new xs
 obtain ⟨ps,hps⟩:∃ps,(G4 b xs).1=ps:=⟨_,rfl⟩
 obtain ⟨last,hlast⟩:∃l,(G4 b xs).2=l:=⟨_,rfl⟩
 rw [hps,hlast] at h1 h2
 rw [hps] at h3 h4
 rw [←Te] at h1 h2
 have hmem:∀k (h:k<ps.length),∃T,xs.drop (pre [b] ps k).length=ps[k]++b::T:=fun k h=>by
  obtain ⟨T,hT⟩:=Jd [b] ps k ps.length rfl h
  refine ⟨T++last,?_⟩
  rw [←h1,hT,List.append_assoc,List.drop_left' rfl]
  simp
 have HC:B4 (∀w,Af w0 w→Calls Tryz.prog 141 #[.slice a n c, .slice po 1 co] w fun e w'=>e= .returned (.int .i64 (ps.length:Nat))∧Af w w'):=⟨fun w hE=>h3▸ RP w a po n c co xs b (hs.ext hE) hnil (ho.ext hE) hb hx⟩
 have HI:B4 (∀k (h:k<ps.length) w,Af w0 w→Calls Tryz.prog 142 #[.slice (cutAt a c (pre [b] ps k).length 1) (n-(pre [b] ps k).length) (c-(pre [b] ps k).length), .slice po 1 co] w fun e w'=>e= .returned (.int .i64 (ps[k].length:Nat))∧Af w w'):=⟨fun k h w hE=>by
  obtain ⟨T,hT⟩:=hmem k h
  have hln:xs.length=n:=by have:=hs.1;simpa using this
  have hle:(pre [b] ps k).length≤n:=by
   have:=OS [b] ps k ps.length (by omega)
   have h5:=congrArg List.length h1
   rw [List.length_append] at h5
   omega
  have hsl:=(hs.ext hE).cutAt (pre [b] ps k).length n hle (Nat.le_refl _)
  have h6:((xs.map (Value.int .u8)).drop ((pre [b] ps k).length*1)).take ((n-(pre [b] ps k).length)*1)=(ps[k]++b::T).map (Value.int .u8):=by
   rw [Nat.mul_one,Nat.mul_one,←List.map_drop,←List.map_take,List.take_of_length_le (by rw [List.length_drop];omega),hT]
  rw [h6] at hsl
  refine Ri w _ po _ _ co ps[k] T b hsl (ho.ext hE) hb (fun x hxm=>hx x ?_) (h4 _ (List.getElem_mem h))
  have:x∈xs.drop (pre [b] ps k).length:=by rw [hT];simp [hxm]
  exact List.mem_of_mem_drop this⟩
 have HR:=J9 w0 a po pn n c 1 co ln cn ps.length ps last [b] new rfl (h1.symm▸ hs) ho hw (by decide) hb1 (by decide) hb3 HC HI
 rw [h2] at HR
 have HRv:B4 _:=⟨HR⟩
 have hS:=St.start w0
 clear HC HI HR hmem h1 h2 h3 h4 hps hlast
 obtain ⟨R,hR⟩:∃R,H6 b new xs=R:=⟨_,rfl⟩
 rw [hR] at HRv⊢
 clear hR
 go_enter Tryz.func119,Tryz.ntmps119
 repeat' (first
  | (refine Al 135 ?_);refine Am AA Tryz.call135 (HRv.out) ?_;rintro e w ⟨ao,c',rfl,hS2⟩;replace hS:=hS2;clear hS2;refine AX ?_;go_step|refine X0 ?_|refine AH ?_;go_step|fail)
 go_ret
 exact ⟨ao,c',rfl,hS⟩
def Dv(l:List Int):List Int:=H6 255 [255,0] l
theorem Og(l:List Int):(Dv l).length=l.length+l.count 255:=by
 induction l with
 | nil=>rfl
 | cons x l ih=>
   have e:Dv (x::l)=(if x=255 then [255,0] else [x])++Dv l:=by simp [Dv,H6]
   rw [e,List.length_append,ih,List.length_cons,List.count_cons]
   by_cases h:x=255
   ·subst h;simp;omega
   simp [h];omega
theorem VY(w0:World)(a:Option Addr)(n c:Nat)(xs:List Int)(hs:Sl w0 1 (.slice a n c) n (xs.map (Value.int .u8)))(hnil:a=none→c=0)(hx:∀x∈xs,0≤x∧x<256)(hb1:n≤1000000000):
 Calls Tryz.prog 112 #[.slice a n c] w0 fun e w=>∃(ao:Option Addr) (c':Nat),e= .returned (.slice ao (Dv xs).length c')∧St w0 w [own 5 1 ao (Dv xs).length c' ((Dv xs).map (Value.int .u8))]:=by
 have hS:=St.start w0
 have HX:B4 _:=⟨hx⟩
 clear hx
 go_enter Tryz.func112,Tryz.ntmps112
 repeat' (first
  | (refine Al 119 ?_);refine Am AA Tryz.call119 (Lr _ a (some ⟨g4,0,none⟩) (some ⟨g5,0,none⟩) n c 1 2 2 xs [255,0] 255 (hs.ext hS.1) hnil (hS.slBlk (n:=1) (cs:=[.int .u8 255]) AK (by rfl) (by decide)) (hS.slBlk (n:=2) (cs:=[.int .u8 255, .int .u8 0]) AK (by rfl) (by decide)) (by decide) HX.out hb1 (by decide)) ?_;rintro e w ⟨ao,c',rfl,hS2⟩;replace hS:=hS.call1 hS2;clear hS2;refine AX ?_;go_step|refine X0 ?_|refine WC 4 ?_;clear hS;intro g4 w hS|refine ec 5 ?_;clear hS;intro g5 w hS|refine AH ?_;go_step|fail)
 go_ret
 refine ⟨ao,c',rfl,?_⟩
 unfold Dv
 exact hS.sub AV
end Go.Proofs.YtohacgmhmbijmaaGreatDoor
