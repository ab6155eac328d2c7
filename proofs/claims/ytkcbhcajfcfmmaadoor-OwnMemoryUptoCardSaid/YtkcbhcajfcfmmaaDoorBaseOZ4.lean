/- What the laws OwnMemory need, part 4. -/
import Derived.Test.YtkcbhcajfcfmmaaDoorBaseOZ2
import Derived.Test.YtkcbhcajfcfmmaaDoorBaseOZ3
import Derived.Laws.CopyRow
import Derived.Laws.IdiomCopy
import Derived.Shelf.Utf8.RuneCount
import Derived.Shelf.Strings.Search1
import Derived.Shelf.Strings.RuneCount
import Derived.Ground.Names2Prog
import Derived.Shelf.Slices.SearchI
import Derived.Shelf.Bytes.SlIndexSmall
import Derived.Ground.SlbNamesProg
import Derived.Shelf.Bytes.SlCountOne
import Derived.Shelf.Bytes.SlIndexAt
import Derived.Shelf.Bytes.SlSearch0
import Derived.Shelf.Bytes.SlSearch1
import Derived.Shelf.Bytes.SlSearch2
import Derived.Shelf.Bytes.SlIndexWhole
import Derived.Shelf.LaysM
import Derived.Shelf.Bytes.SlCountWhole
import Derived.Shelf.Bytes.SlSplit
import Derived.Ground.SlbCloneProg
import Derived.Shelf.Bytes.SlClone
import Derived.Shelf.Bytes.SlEqualAll
import Derived.Shelf.Bytes.Small
import Derived.Shelf.Bytes.IndexByte
import Derived.Test.YtkcbhcajfcfmmaaDoorProg
namespace Go.Proofs.YtkcbhcajfcfmmaaDoor
attribute [local irreducible] Region.wanted
open Go.ChangeShapes Go.WideShapes Go.ChangeAt Go.RowKit Go.Deep
set_option linter.unusedVariables false
set_option maxRecDepth 100000
set_option maxHeartbeats 8000000
theorem DO(w0:World)(f:Aj)(a1 a2 ad:Option Addr)(n1 n2 nd c1 c2 cd:Nat)(hQ:Ag f.quant 64)(hC1:Ag f.c1 16)(hC2:Ag f.c2 16)(hs1:Sl w0 1 (.slice a1 n1 c1) n1 (f.s1.map (Value.int .i64)))(hs2:Sl w0 1 (.slice a2 n2 c2) n2 (f.s2.map (Value.int .i64)))(hn1:n1≤9223372036854775807)(hn2:n2≤9223372036854775807)(hnd:nd≤9223372036854775807)(hd:f.data.length=nd):
 Calls Tryd.prog 23 #[fv f (.slice a1 n1 c1) (.slice a2 n2 c2) (.slice ad nd cd)] w0 fun e w=>e= .returned (.int .i64 (BB f))∧AX w0 w:=by
 by_cases h1:Eh f
 ·by_cases h2:L4 f.quant=true
  ·have e:BB f=if A7 f.c1 f.s1=0 then if A7 f.c2 f.s2=0 then if nd≤90000 then 0 else 2 else A7 f.c2 f.s2 else A7 f.c1 f.s1:=by unfold BB;rw [if_pos h1,if_pos h2,hd]
   rw [e]
   exact Gr w0 _ _ _ _ _ _ _ _ _ a1 a2 ad n1 n2 nd c1 c2 cd hQ hC1 hC2 hs1 hs2 hn1 hn2 hnd h1 h2
  have e:BB f=1:=by unfold BB;rw [if_pos h1,if_neg h2]
  rw [e]
  exact GC w0 _ _ _ _ _ _ _ _ _ _ hQ hC1 hC2 h1 (by simpa using h2)
 have e:BB f=1:=by unfold BB;rw [if_neg h1]
 rw [e]
 exact Gq w0 _ _ _ _ _ _ _ _ _ _ hQ hC1 hC2 h1
theorem DJ(A:List Int)(k:Nat)(h:k<A.length):A.take (k+1)=A.take k++[AF A k]:=by
 rw [List.take_succ_eq_append_getElem h]
 simp [AF,List.getD,h]
def cb(C:List Int):Nat→List Int
 | 0=>[]
 | k+1=>cb C k++[AF C k/256,AF C k%256]
def GY(C S:List Int):List Int:=cb C 16++S
def Fj(f:Aj):List Int:=[77,90]++[f.wide,f.high,f.parts,f.every]
def Kw(f:Aj):Nat→List Int
 | 0=>[]
 | 1=>GY f.c1 f.s1
 | _=>GY f.c1 f.s1++GY f.c2 f.s2
def Al(f:Aj):List Int:=f.data.map fun (x:Nat)=>(x:Int)
def CN(f:Aj):List Int:=Fj f++FJ f.quant++Kw f 2++Al f
theorem Ek{f:Aj}(h:BB f=0):Eh f∧L4 f.quant=true∧A7 f.c1 f.s1=0∧A7 f.c2 f.s2=0∧f.data.length≤90000:=by
 unfold BB at h
 split at h
 ·rename_i h1
  split at h
  ·rename_i h2
   split at h
   ·rename_i h3
    split at h
    ·rename_i h4
     split at h
     ·rename_i h5
      exact ⟨h1,h2,h3,h4,h5⟩
     cases h
    rename_i h4;exact absurd h h4
   rename_i h3;exact absurd h h3
  cases h
 cases h
theorem DQ{S:List Int}{lo hi:Int}(h:∀s∈S,lo≤s∧s<hi)(i:Nat)(hi2:i<S.length):lo≤AF S i∧AF S i<hi:=by
 have e:AF S i=S[i]:=by simp [AF,List.getD,hi2]
 rw [e]
 exact h _ (List.getElem_mem hi2)
theorem K7{Q:List Int}(hQ:Q.length=64)(h:L4 Q=true)(i:Nat)(hi:i<64):1≤AF (FJ Q) i∧AF (FJ Q) i≤255:=by
 rw [JB Q i hi]
 exact (D1 Q 1 255).1 h (zn i) (by rw [hQ];exact JA i hi)
theorem Kk(w0:World)(f:Aj)(a1 a2 ad:Option Addr)(n1 n2 nd c1 c2 cd:Nat)(hQ:Ag f.quant 64)(hC1:Ag f.c1 16)(hC2:Ag f.c2 16)(hs1:Sl w0 1 (.slice a1 n1 c1) n1 (f.s1.map (Value.int .i64)))(hs2:Sl w0 1 (.slice a2 n2 c2) n2 (f.s2.map (Value.int .i64)))(hn1:n1≤9223372036854775807)(hn2:n2≤9223372036854775807)(hnd:nd≤9223372036854775807)(hd:f.data.length=nd)(E:Int)(hE:BB f=E)(hE0:E≠0):
 Calls Tryd.prog 14 #[fv f (.slice a1 n1 c1) (.slice a2 n2 c2) (.slice ad nd cd)] w0 fun e w=>e= .returned (.tuple #[.slice none 0 0, .int .i64 E])∧AX w0 w:=by
 have hS:=St.start w0
 have HC:∀w,AX w0 w→Calls Tryd.prog 23 #[fv f (.slice a1 n1 c1) (.slice a2 n2 c2) (.slice ad nd cd)] w fun e w'=>e= .returned (.int .i64 E)∧AX w w':=fun w hx=>hE▸ DO w f a1 a2 ad n1 n2 nd c1 c2 cd hQ hC1 hC2 (hs1.ext hx) (hs2.ext hx) hn1 hn2 hnd hd
 have HCh:=AD HC
 obtain ⟨W,H,p,Q,C1,S1,C2,S2,ev,D⟩:=f
 clear HC hd hE
 go_enter Tryd.func14,Tryd.ntmps14
 repeat' (first
  | (refine Am 23 ?_);refine An AB Tryd.call23 (HCh.out _ hS.1) (Gd hS ?_);clear hS;intro w hS;go_step|refine X0 ?_|refine Mt ?_|refine Ik 1 ?_;clear hS;intro g1 w hS|refine KD ?_|refine AG ?_;go_step|fail)
 refine Ah (xs:=[_,_]) rfl (.cons (AE.tmp rfl) (.cons (AE.tmp rfl) (.nil))) (by simp) rfl ?_
 exact ⟨rfl,hS.1⟩
theorem Mi(f:Aj)(v1 v2:Value)(hC1:Ag f.c1 16)(hC2:Ag f.c2 16)(k:Nat)(hk:k<2):∃(C S:List Int) (v:Value),(k=0∧C=f.c1∧S=f.s1∧v=v1∨k=1∧C=f.c2∧S=f.s2∧v=v2)∧Ag C 16∧F9 [.ints f.c1, .val v1, .ints f.c2, .val v2] (k*17) 17 [.ints C, .val v]∧Kw f (k+1)=Kw f k++GY C S:=by
 obtain rfl|rfl:k=0∨k=1:=by omega
 ·exact ⟨f.c1,f.s1,v1, .inl ⟨rfl,rfl,rfl,rfl⟩,hC1, .head (.ints hC1 (by omega) rfl (.val .nil)),by simp [Kw]⟩
 exact ⟨f.c2,f.s2,v2, .inr ⟨rfl,rfl,rfl,rfl⟩,hC2, .skipI hC1 (by omega) rfl (.skipV (.head (.ints hC2 (by omega) rfl (.val .nil)))),rfl⟩
theorem Iw(w0:World)(f:Aj)(a1 a2 ad:Option Addr)(n1 n2 nd c1 c2 cd:Nat)(hQ:Ag f.quant 64)(hC1:Ag f.c1 16)(hC2:Ag f.c2 16)(hs1:Sl w0 1 (.slice a1 n1 c1) n1 (f.s1.map (Value.int .i64)))(hs2:Sl w0 1 (.slice a2 n2 c2) n2 (f.s2.map (Value.int .i64)))(hsd:Sl w0 1 (.slice ad nd cd) nd ((Al f).map (Value.int .u8)))(hE:BB f=0):
 Calls Tryd.prog 14 #[fv f (.slice a1 n1 c1) (.slice a2 n2 c2) (.slice ad nd cd)] w0 fun e w=>∃(ao:Option Addr) (co:Nat),e= .returned (.tuple #[.slice ao (CN f).length co, .int .i64 0])∧St w0 w [own 5 1 ao (CN f).length co ((CN f).map (Value.int .u8))]:=by
 have hS:=St.start w0
 obtain ⟨hdm,hqk,ht1,ht2,hdl⟩:=Ek hE
 have hl1:f.s1.length=n1:=by have:=hs1.1;simpa using this
 have hl2:f.s2.length=n2:=by have:=hs2.1;simpa using this
 have hld:f.data.length=nd:=by have:=hsd.1;simpa [Al] using this
 have k1:=Bf ht1
 have k2:=Bf ht2
 have hb1:=k1.2.2.1
 have hb2:=k2.2.2.1
 have HC:∀w,AX w0 w→Calls Tryd.prog 23 #[fv f (.slice a1 n1 c1) (.slice a2 n2 c2) (.slice ad nd cd)] w fun e w'=>e= .returned (.int .i64 0)∧AX w w':=fun w hx=>hE▸ DO w f a1 a2 ad n1 n2 nd c1 c2 cd hQ hC1 hC2 (hs1.ext hx) (hs2.ext hx) (by omega) (by omega) (by omega) hld
 have HCh:=AD HC
 have HZ:=AD fun i hi=>K7 hQ.out hqk i hi
 have HT:∀k,k<2→∃(C S:List Int) (a:Option Addr) (n c:Nat),Ag C 16∧F9 [.ints f.c1, .val (.slice a1 n1 c1), .ints f.c2, .val (.slice a2 n2 c2)] (k*17) 17 [.ints C, .val (.slice a n c)]∧Kw f (k+1)=Kw f k++GY C S∧Sl w0 1 (.slice a n c) n (S.map (Value.int .i64))∧S.length=n∧n≤256∧(∀i,i<16→0≤AF C i∧AF C i≤256)∧(∀i,i<n→0≤AF S i∧AF S i<256):=fun k hk=>by
  obtain ⟨C,S,v,h1,h2,h3,h4⟩:=Mi f (.slice a1 n1 c1) (.slice a2 n2 c2) hC1 hC2 k hk
  obtain ⟨_,rfl,rfl,rfl⟩|⟨_,rfl,rfl,rfl⟩:=h1
  ·exact ⟨_,_,a1,n1,c1,h2,h3,h4,hs1,hl1,by omega,k1.1,fun i hi=>DQ k1.2.2.2.1 i (by omega)⟩
  exact ⟨_,_,a2,n2,c2,h2,h3,h4,hs2,hl2,by omega,k2.1,fun i hi=>DQ k2.2.2.2.1 i (by omega)⟩
 have HTh:=AD HT
 have hLz:=AD (Bq f.quant)
 have HP:=AD (show CN f=Fj f++FJ f.quant++Kw f 2++Al f from rfl)
 have HH:=AD (show Fj f=[77,90]++[f.wide,f.high,f.parts,f.every] from rfl)
 obtain ⟨P,hP⟩:∃x,CN f=x:=⟨_,rfl⟩
 obtain ⟨Hd,hHd⟩:∃x,Fj f=x:=⟨_,rfl⟩
 obtain ⟨Dt,hDt⟩:∃x,Al f=x:=⟨_,rfl⟩
 obtain ⟨Tb,hTb⟩:∃x,Kw f=x:=⟨_,rfl⟩
 have HT0:=AD (show Kw f 0=[] from rfl)
 rw [hP]
 rw [hP,hHd,hDt,hTb] at HP
 rw [hHd] at HH
 rw [hDt] at hsd
 rw [hTb] at HTh HT0
 have hLt1:=AD (Cm f.c1 (.slice a1 n1 c1) hC1)
 have hLt2:=AD (Cm f.c2 (.slice a2 n2 c2) hC2)
 obtain ⟨W,H,p,Q,C1,S1,C2,S2,ev,D⟩:=f
 obtain ⟨hw,hh,hp,hev⟩:=hdm
 dsimp only at hw hh hp hev hQ hC1 hC2 hs1 hs2 hsd hl1 hl2 hld HH HZ HTh hLz hLt1 hLt2 hb1 hb2 hdl HP
 have hpb:1≤p∧p≤3:=by omega
 obtain ⟨Z,hZ⟩:∃x,FJ Q=x:=⟨_,rfl⟩
 have HZq:=AD hZ
 rw [hZ] at HZ hLz HP
 clear HC HT hE hqk ht1 ht2 k1 k2 hP hHd hDt hTb hp hZ
 show Calls Tryd.prog 14 #[.agg (AA [.val (.int .i64 W), .val (.int .i64 H), .val (.int .i64 p), .ints Q, .ints C1, .val (.slice a1 n1 c1), .ints C2, .val (.slice a2 n2 c2), .val (.int .i64 ev), .val (.slice ad nd cd)]).toArray] _ _
 go_enter Tryd.func14,Tryd.ntmps14
 repeat' (first
  | (refine Am 23 ?_);refine An AB Tryd.call23 (HCh.out _ hS.1) (Gd hS ?_);clear hS;intro w hS;go_step|(refine AU 20 ?_);refine A3 ?_;refine Hv (o:=⟨some 20,_,_,_,_,_⟩) hS 22 _ rfl 5 Tryd.underlying22 Tryd.underlying5 _ _ _ rfl _ AQ ?_;clear hS;intro w hS;refine AC ?_;go_step|(refine AU 34 ?_);refine A3 ?_;refine IZ (o:=⟨some 34,_,_,_,_,_⟩) hS _ _ 22 rfl 5 1 1 Ei _ _ _ rfl rfl AQ _ rfl 4 _ (hS.slBlk (n:=4) AQ (by rfl) (by decide)) (by decide) (by decide) (by decide) ?_;clear hS;intro ad34 c34 w hS;refine AC ?_;go_step|(refine Am 30 ?_);refine An AB Tryd.call30 (Lu _ Q hQ.out) ?_;rintro e w ⟨rfl,hE2⟩;rw [HZq.out];replace hS:=hS.ext hE2;clear hE2;refine As ?_;go_step|refine X0 ?_|refine Mt ?_|refine Lx ?_|refine Nu ?_|refine MH ?_|refine Mu ?_|refine NP ?_|refine NO ?_|refine Ik 1 ?_;clear hS;intro g1 w hS|refine KD ?_|refine Ms 19 ?_;clear hS;intro g19 w hS|refine Ly ?_|refine On 33 ?_;clear hS;intro g33 w hS|refine Nw ?_|refine AG ?_;go_step|fail)
 have e0:[Value.int .u8 77,Value.int .u8 90]++[Value.int .u8 W,Value.int .u8 H,Value.int .u8 p,Value.int .u8 ev]=(Hd++Z.take 0).map (Value.int .u8):=by rw [HH.out];simp
 clear hLt1 hLt2 HCh HZq
 go_loopg [5,38] 64 (fun gk bv kv w=>∃(k:Nat) (a:Option Addr) (c M:Nat),gk+k=64∧kv= .int .i64 k∧M=6+k∧bv= .slice a M c∧St w0 w [own 5 1 a M c ((Hd++Z.take k).map (Value.int .u8)),prt g1 [.val (.int .i64 W), .val (.int .i64 H), .val (.int .i64 p), .ints Q, .ints C1, .val (.slice a1 n1 c1), .ints C2, .val (.slice a2 n2 c2), .val (.int .i64 ev), .val (.slice ad nd cd)]])
 case atStart=>exact ⟨0,ad34,c34,2+4,rfl,rfl,rfl,rfl,by rw [←e0];exact hS.sub Ao⟩
 case round=>
  clear hS e0
  obtain ⟨k,ba,bc,M,hk,rfl,hM,rfl,hS⟩:=hrel
  by_cases hlt:k<64
  ·have hx:=HZ.out k hlt
   have HX2:Hid ((Hd++Z.take k)++[AF Z k]=Hd++Z.take (k+1)):=AD (by rw [DJ Z k (by rw [hLz.out];exact hlt),List.append_assoc])
   obtain ⟨x,hxe⟩:∃x,AF Z k=x:=⟨_,rfl⟩
   have HX:=AD hxe
   rw [hxe] at hx HX2
   clear hxe
   repeat' (first
    | (refine AU 40 ?_);refine AP (.int .i64 x) (V.as (V.indexIv Tryd.underlying25 Tryd.underlying3 DC rfl rfl hLz.out At.cast (by omega)) HX.out) AB ?_;go_step|refine X0 ?_|refine X3 ?_|refine Nu ?_|refine Ge ?_|refine Mr 44 ?_;clear hS;intro g44 w hS|refine Lv 45 ?_;clear hS;intro ad45 c45 w hS|refine AG ?_;go_step|fail)
   go_roundg (gk-1)
   case measure=>omega
   case rel=>exact ⟨k+1,_,_,M+1,by omega,by go_num,by omega,rfl,by rw [←HX2.out];exact hS.sub Ao⟩
  obtain rfl:k=64:=by omega
  obtain rfl:M=70:=by omega
  have hL0:Hd++Z.take 64=Hd++Z++Tb 0:=by rw [List.take_of_length_le (by rw [hLz.out];omega),HT0.out,List.append_nil]
  rw [hL0] at hS
  clear hL0
  have hL1:=AD (Cm C1 (.slice a1 n1 c1) hC1)
  have hL2:=AD (Cm C2 (.slice a2 n2 c2) hC2)
  repeat' (first
   | (refine AU 53 ?_);refine A3 ?_;refine AM (o:=⟨some 53,_,_,_,_,_⟩) hS 69 2 _ rfl 28 17 152 NX _ _ (AN.agg rfl hL1.out (AN.agg rfl hL2.out AN.nil)) rfl (by decide) (by decide) ?_;clear hS;intro g53 w hS;replace hS:=Hj hS|refine X1 ?_|refine X3 ?_|refine Nv ?_|refine OL ?_|refine OM ?_|(with_reducible refine Az _ (.call ⟨.builtin .len,_,_⟩) ?_);(refine Av AB (V.len Tryd.underlying69 rfl) ?_;go_step)|refine KC ?_|refine AG ?_;go_step|fail)
  clear hL1 hL2
  go_loopg [5,55] 2 (fun gk bv kv w=>∃(k:Nat) (a:Option Addr) (c M:Nat),gk+k=2∧kv= .int .i64 k∧M≤70+300*k∧bv= .slice a M c∧St w0 w [own 5 1 a M c ((Hd++Z++Tb k).map (Value.int .u8)),prt g1 [.val (.int .i64 W), .val (.int .i64 H), .val (.int .i64 p), .ints Q, .ints C1, .val (.slice a1 n1 c1), .ints C2, .val (.slice a2 n2 c2), .val (.int .i64 ev), .val (.slice ad nd cd)],prt g53 [.ints C1, .val (.slice a1 n1 c1), .ints C2, .val (.slice a2 n2 c2)]])
  case atStart=>exact ⟨0,ba,bc,_,rfl,rfl,(by omega),rfl,hS.sub Ao⟩
  case round=>
   clear hS
   obtain ⟨k,ba,bc,M,hk,rfl,hM,rfl,hS⟩:=hrel
   by_cases hlt:k<2
   ·obtain ⟨C,S,sa,sn,sc,hC,hAt,hTk,hs,hsl,hsn,hCr,hSr⟩:=HTh.out k hlt
    have HCr:=AD hCr
    have HSr:=AD hSr
    have HTk:=AD hTk
    have HAt:=AD hAt
    obtain ⟨B0,hB0⟩:∃x,Hd++Z++Tb k=x:=⟨_,rfl⟩
    have HB0:=AD hB0
    rw [hB0] at hS
    obtain ⟨gk1,hgk1⟩:∃x,x=gk:=⟨_,rfl⟩
    subst hgk1
    clear hCr hSr hTk hAt hB0
    repeat' (first
     | (refine AU 58 ?_);refine A3 ?_;refine DA (o:=⟨some 58,_,_,_,_,_⟩) hS 28 _ rfl _ _ rfl 17 (AY rfl) _ AQ _ HAt.out ?_;refine AC ?_;go_step|refine X1 ?_|refine X3 ?_|refine OZ 57 ?_|refine NN ?_|refine LL 9 ?_;clear hS;intro g9 w hS|refine LN ?_;clear hS;intro w hS|refine Nx ?_|refine AG ?_;go_step|fail)
    go_loopg [5,61] 16 (fun gk bv kv w=>∃(i:Nat) (a:Option Addr) (c N:Nat),gk+i=16∧kv= .int .i64 i∧N=M+2*i∧bv= .slice a N c∧St w0 w [own 5 1 a N c ((B0++cb C i).map (Value.int .u8)),prt g1 [.val (.int .i64 W), .val (.int .i64 H), .val (.int .i64 p), .ints Q, .ints C1, .val (.slice a1 n1 c1), .ints C2, .val (.slice a2 n2 c2), .val (.int .i64 ev), .val (.slice ad nd cd)],prt g53 [.ints C1, .val (.slice a1 n1 c1), .ints C2, .val (.slice a2 n2 c2)],prt g9 [.ints C, .val (.slice sa sn sc)]])
    case atStart=>exact ⟨0,ba,bc,M,rfl,rfl,rfl,rfl,by rw [show B0++cb C 0=B0 by simp [cb]];exact hS.sub Ao⟩
    case round=>
     clear hS
     obtain ⟨i,ba,bc,N,hi,rfl,hN,rfl,hS⟩:=hrel
     by_cases hlt2:i<16
     ·have hx:=HCr.out i hlt2
      have HX2:Hid ((B0++cb C i)++[AF C i/256,AF C i%256]=B0++cb C (i+1)):=AD (by rw [cb,List.append_assoc])
      obtain ⟨x,hxe⟩:∃x,AF C i=x:=⟨_,rfl⟩
      have HX:=AD hxe
      rw [hxe] at hx HX2
      have HW:=AD (show IntKind.u8.wrap x=x%256 by simp [IntKind.wrap,IntKind.signed,IntKind.bits])
      clear hxe
      repeat' (first
       | (refine AU 63 ?_);refine AP (.int .i64 x) (V.as (V.indexIv Tryd.underlying26 Tryd.underlying3 DC rfl rfl hC At.cast (by omega)) HX.out) AB ?_;go_step|(refine AU 66 ?_);(refine AP (.int _ ((x/256))) (V.as (V.shr rfl rfl BL (by omega) rfl) (by omega)) (by kernel_rfl) ?_;go_step)|(refine AU 69 ?_);(refine AP (.int _ ((x%256))) (V.as (V.conv (by rw [Tryd.underlying3];rfl) Tryd.underlying5 rfl) (by exact HW.out)) (by kernel_rfl) ?_;go_step)|refine X0 ?_|refine X3 ?_|refine Nu ?_|refine Ge ?_|refine Ms 70 ?_;clear hS;intro g70 w hS|refine Lv 71 ?_;clear hS;intro ad71 c71 w hS|refine AG ?_;go_step|fail)
      go_roundg (gk-1)
      case measure=>omega
      case rel=>exact ⟨i+1,_,_,N+2,by omega,by go_num,by omega,rfl,by rw [←HX2.out];exact hS.sub Ao⟩
     obtain rfl:i=16:=by omega
     repeat' (first
      | refine X1 ?_|refine X3 ?_|refine OK ?_|refine OJ ?_|refine MI ?_|refine AG ?_;go_step|fail)
     obtain ⟨B1,hB1⟩:∃x,B0++cb C 16=x:=⟨_,rfl⟩
     have HB1:=AD hB1
     rw [hB1] at hS
     clear hB1
     go_loopg [5,76] sn (fun gk bv kv w=>∃(i:Nat) (a:Option Addr) (c O:Nat),gk+i=sn∧kv= .int .i64 i∧O=N+i∧bv= .slice a O c∧St w0 w [own 5 1 a O c ((B1++S.take i).map (Value.int .u8)),prt g1 [.val (.int .i64 W), .val (.int .i64 H), .val (.int .i64 p), .ints Q, .ints C1, .val (.slice a1 n1 c1), .ints C2, .val (.slice a2 n2 c2), .val (.int .i64 ev), .val (.slice ad nd cd)],prt g53 [.ints C1, .val (.slice a1 n1 c1), .ints C2, .val (.slice a2 n2 c2)]])
     case atStart=>exact ⟨0,ba,bc,N,by omega,rfl,rfl,rfl,by rw [show B1++S.take 0=B1 by simp];exact hS.sub Ao⟩
     case round=>
      clear hS
      obtain ⟨i,ba,bc,O,hi,rfl,hO,rfl,hS⟩:=hrel
      by_cases hlt3:i<sn
      ·have hx:=HSr.out i hlt3
       have HX2:Hid ((B1++S.take i)++[AF S i]=B1++S.take (i+1)):=AD (by rw [DJ S i (by omega),List.append_assoc])
       repeat' (first
        | refine X0 ?_|refine X3 ?_|refine OG 78 ?_;intro b78 o78 hc78;go_step|refine Nu ?_|refine Ge ?_|refine Mv ?_|refine Mr 83 ?_;clear hS;intro g83 w hS|refine Lv 84 ?_;clear hS;intro ad84 c84 w hS|refine AG ?_;go_step|fail)
       go_roundg (gk-1)
       case measure=>omega
       case rel=>exact ⟨i+1,_,_,O+1,by omega,by go_num,by omega,rfl,by rw [←HX2.out];exact hS.sub Ao⟩
      obtain rfl:i=sn:=by omega
      repeat' (first
       | refine X1 ?_|refine X3 ?_|refine Ge ?_|refine AG ?_;go_step|fail)
      go_roundg (gk1-1)
      case measure=>omega
      case rel=>
       refine ⟨k+1,_,_,_,by omega,by go_num,?_,rfl,?_⟩
       rotate_left
       ·rw [HTk.out,←List.append_assoc,HB0.out,GY,←List.append_assoc,HB1.out]
        rw [List.take_of_length_le (by omega)] at hS
        exact hS.sub Ao
       omega
   obtain rfl:k=2:=by omega
   repeat' (first
    | refine X0 ?_|refine X3 ?_|refine ON ?_|refine J4 ?_|refine Lv 90 ?_;clear hS;intro ad90 c90 w hS|refine AG ?_;go_step|fail)
   have hol:=hS.ownLen (e:=5) AQ
   have hPl:P.length=M+nd:=by rw [HP.out];simpa using hol
   refine Ah (xs:=[_,_]) rfl (.cons (AE.tmp rfl) (.cons (AE.tmp rfl) (.nil))) (by simp) rfl ?_
   rw [hPl]
   refine ⟨_,_,rfl,?_⟩
   rw [HP.out]
   exact hS.sub Ao
end Go.Proofs.YtkcbhcajfcfmmaaDoor
namespace Go.Proofs.YtkcbhcajfcfmmaaDoor
attribute [local irreducible] Region.wanted
open Go.RowKit
set_option linter.unusedVariables false
set_option maxRecDepth 100000
set_option maxHeartbeats 8000000
theorem JW(l:List Int):(Value.agg (iv l))=Value.agg (AA [.ints l]).toArray:=by simp [AA,AJ.cells,iv]
theorem Es(a b:List AJ):AA (a++b)=AA a++AA b:=by
 induction a with
 | nil=>rfl
 | cons x a ih=>rw [List.cons_append,AA,AA,ih,List.append_assoc]
inductive JD(ss:List AJ):List AJ→Nat→List AJ→Prop
 | head {B D:List AJ} (hb:(AA B).length=(AA ss).length):JD ss (B++D) 0 (ss++D)
 | skipI {l:List Int} {ps ps':List AJ} {off n o2:Nat} (hn:Ag l n) (h:n≤off) (ho:off-n=o2) (t:JD ss ps o2 ps'):JD ss (.ints l::ps) off (.ints l::ps')
 | skipV {v:Value} {ps ps':List AJ} {off:Nat} (t:JD ss ps off ps'):JD ss (.val v::ps) (off+1) (.val v::ps')
theorem JD.eq{ss ps ps':List AJ}{off:Nat}(h:JD ss ps off ps'):∃A B D:List Value,AA ps=A++(B++D)∧AA ps'=A++(AA ss++D)∧A.length=off∧B.length=(AA ss).length:=by
 induction h with
 | @head B D hb=>exact ⟨[],AA B,AA D,by rw [Es];rfl,by rw [Es];rfl,rfl,hb⟩
 | @skipI l ps ps' off n o2 hn h ho t ih=>
   obtain ⟨A,B,D,e1,e2,e3,e4⟩:=ih
   have hl:=hn.out
   exact ⟨l.map (Value.int .i64)++A,B,D,by rw [AA,e1,List.append_assoc];rfl,by rw [AA,e2,List.append_assoc];rfl,by simp;omega,e4⟩
 | @skipV v ps ps' off t ih=>
   obtain ⟨A,B,D,e1,e2,e3,e4⟩:=ih
   exact ⟨v::A,B,D,by rw [AA,e1];rfl,by rw [AA,e2];rfl,by simp [e3],e4⟩
theorem Fq(g:Nat):∀(vs B A D:List Value)(w:World),FK w g (A++(B++D)).toArray→B.length=vs.length→FK (w.setCells g A.length vs) g (A++(vs++D)).toArray∧CE [g] w (w.setCells g A.length vs)
 | [],[],A,D,w,h,_=>⟨h,⟨rfl,rfl,rfl,Nat.le_refl _,fun _ _ _=>rfl⟩⟩
 | [],_::_,A,D,w,h,hl=>by simp at hl
 | _::_,[],A,D,w,h,hl=>by simp at hl
 | v::vs,b::B,A,D,w,h,hl=>by
   have h1:=h.set A.length v
   have e1:((A++(b::B++D)).toArray).setIfInBounds A.length v=((A++[v])++(B++D)).toArray:=by
    simp
   rw [e1] at h1
   obtain ⟨h2,h3⟩:=Fq g vs B (A++[v]) D _ h1 (by simpa using hl)
   have e2:w.setCells g A.length (v::vs)=(w.setCell ⟨g,A.length,none⟩ v).setCells g (A++[v]).length vs:=by
    rw [World.setCells,List.length_append];rfl
   rw [e2]
   refine ⟨by simpa using h2,?_⟩
   have h4:=CE.setCell w ⟨g,A.length,none⟩ v
   exact ⟨h3.os.trans h4.os,h3.tape.trans h4.tape,h3.output.trans h4.output,Nat.le_trans h4.size h3.size,fun k hk hm=>(h3.block k (Nat.lt_of_lt_of_le hk h4.size) hm).trans (h4.block k hk hm)⟩
section
variable{P:Program}{W w:World}{rs rs':List Ac}{Q:Exit→Act→World→Prop}{K:Act→World→Prop}{o:Oper}{a:Act}
theorem CY(hS:St W w rs)(ty:TypeId)(x y:Operand)(ho:o.op= .store ty x y)(g off:Nat)(hx:a.eval x= .pointer (some ⟨g,off,none⟩))(m:Nat)(h1:Ch P ty m)(ps ps' ss:List AJ)(hp:AI (prt g ps) rs rs')
 (hy:a.eval y= .agg (AA ss).toArray) (hr:JD ss ps off ps') (hm:(AA ss).length=m) (hv:ss.all GL=true) (hd:o.dst=none) (h:∀w',St W w' (prt g ps'::rs')→K a w'):o.wp P a w K Q:=by
 obtain ⟨A,B,D,e1,e2,e3,e4⟩:=hr.eq
 subst e3
 have hb:=(hS.blk hp).1
 rw [e1] at hb
 obtain ⟨h2,h3⟩:=Fq g (AA ss) B A D w hb e4
 refine wp_store_mid ty x y ho g A.length (AA ss).toArray hx hy ?_ (by rw [h1.2];simp [hm]) (by simpa using Cy hv) ?_
 ·intro j hj
  rw [List.size_toArray] at hj
  refine ⟨?_,hb.free _⟩
  rw [hb.cell]
  have:A.length+j<(A++(B++D)).toArray.size:=by simp;omega
  rw [Array.getElem?_eq_getElem this];rfl
 rw [show a.put o.dst undef=a by rw [hd];rfl]
 refine h _ ?_
 refine St.change (rs1:=[prt g ps']) (hS.pull hp) fun f1 k1 _ _=>?_
 obtain ⟨rfl,_⟩:=k1
 refine ⟨[g],⟨[g],[],rfl,⟨rfl,?_⟩,rfl⟩,by simp,fun b hb=> .inl hb,h3⟩
 rw [e2];exact h2
end
theorem AE.prt{P:Program}{W w:World}{rs rs':List Ac}{tmps:Array Value}{p g n:Nat}{ty:TypeId}{ps:List AJ}(hS:St W w rs)(hp:tmps.getD p undef= .pointer (some ⟨g,0,none⟩))(h1:Ch P ty n)(pl:AI (Go.Proofs.YtkcbhcajfcfmmaaDoor.prt g ps) rs rs')(hn:BG ps n ps):AE P tmps w (.cell p ty) (.agg (AA ps).toArray):=
 AE.blk hS hp h1 pl hn.take.2
section
variable{P:Program}{W w:World}{rs rs':List Ac}{Q:Exit→Act→World→Prop}{K:Act→World→Prop}{o:Oper}{a:Act}
theorem FA(hS:St W w rs)(d x:Operand)(tT:TypeId)(ho:o.op= .call {callee:= .builtin .copy,args:=#[d,x],argTypes:=#[tT,tT]})(e b:TypeId)(el:BT P tT e 1 b)(g q n c:Nat)(cs:List Value)(hd:a.eval d= .slice (cutAt (some ⟨g,0,none⟩) c q 1) (n-q) (c-q))(hp:AI (own e 1 (some ⟨g,0,none⟩) n c cs) rs rs')
 (v:Value) (hx:a.eval x=v) (m:Nat) (news:List Value) (hm:Sl w 1 v m news) (hq:q+m≤n) (h1:∀u∈news,u.oneCell'=true)
 (h:∀w',St W w' (own e 1 (some ⟨g,0,none⟩) n c (cs.take q++news++cs.drop (q+m))::rs')→K (a.put o.dst (.int .i64 m)) w'):o.wp P a w K Q:=by
 obtain ⟨ht,⟨i,z,hi,hz,hsz,hby,hzs⟩,hpos⟩:=el
 have hs1:(P.info? e).map (·.size)=some 1:=by rw [hi];simp [hsz]
 have hown:=hS.own hp
 obtain ⟨hl,aa,cc,rfl,hmc,hcm,hor⟩:=hm
 have hlm:news.length=m:=by simpa using hl
 by_cases hm0:m=0
 ·subst hm0
  have hnil:news=[]:=List.eq_nil_of_length_eq_zero hlm
  subst hnil
  have hr:=run_copy_none (P:=P) w tT tT o.type e (cutAt (some ⟨g,0,none⟩) c q 1) aa (n-q) (c-q) 0 cc ht hs1 (Nat.zero_min _)
  have hk:=h w (by
   have e1:cs.take q++[]++cs.drop (q+0)=cs:=by simp
   rw [e1];exact hS.pull hp)
  unfold Oper.wp execOp
  simp only [ho,resolve,invoke,builtin,Sem.run_bind,Sem.run_pure,Result.andThen_ok,List.map_toArray,List.map_cons,List.map_nil,hd,hx,hr]
  exact hk
 rcases hor with h0|⟨bb,off,rfl,hcells⟩
 ·exact absurd h0 hm0
 rcases hown.2 with ⟨h2,_⟩|⟨g',cap,cur,h2,_,hg,hnc,hcm2,hcs,htake⟩
 ·cases h2
 cases h2
 have hcq:¬(c=q):=by omega
 have hd2:a.eval d= .slice (some ⟨g,q,none⟩) (n-q) (c-q):=by
  rw [hd,cutAt,if_neg hcq]
  simp only [Option.map_some,Addr.add_mid,Nat.zero_add,Nat.mul_one]
 have hsrc:∀j u,news[j]? =some u→w.cell? ((⟨bb,off,none⟩:Addr).add j)=some u:=fun j u hu=>by
  have hj:j<m*1:=by rw [←hl];exact (List.getElem?_eq_some_iff.1 hu).1
  rw [Addr.add_mid,hcells j hj,hu]
 have hr:=run_copy_row (P:=P) w tT tT o.type e g q (n-q) (c-q) ⟨bb,off,none⟩ m cc cur e news ht hs1 hg (by rw [hlm];exact (Nat.min_eq_left (by omega)).symm) hsrc (by rw [hlm,hcs];omega) h1
 have hxl:cs.length=n:=by have:=hown.1;simpa using this
 have htl:cur.toList.take n=cs:=by have:=htake;rwa [Nat.mul_one] at this
 have hcl:cur.toList.length=c:=by rw [Array.length_toList,hcs,Nat.mul_one]
 have hnew:(cur.toList.take q++news++cur.toList.drop (q+m)).take n=cs.take q++news++cs.drop (q+m):=by
  have a1:cur.toList.take q=cs.take q:=by rw [←htl,List.take_take,Nat.min_eq_left (by omega)]
  have a2:(cur.toList.drop (q+m)).take (n-(q+m))=cs.drop (q+m):=by rw [←htl,List.drop_take]
  have a3:(cur.toList.take q++news).length=q+m:=by rw [List.length_append,hlm,List.length_take,hcl];omega
  rw [List.take_append,List.take_of_length_le (by omega),a3,a2,a1]
 have hst:St W (w.setRow g (cur.toList.take q++news++cur.toList.drop (q+news.length)).toArray) ([own e 1 (some ⟨g,0,none⟩) n c (cs.take q++news++cs.drop (q+m))]++rs'):=by
  refine St.change (hS.pull hp) fun f1 k1 hf1 hn1=>?_
  obtain ⟨rfl,k1⟩:=k1
  refine ⟨[g],⟨[g],[],by simp,⟨rfl,?_, .inr ⟨g,c,_,rfl,Nat.zero_le _,setRow_heap w g cur _ e _ hg,hnc,hcm2,?_,?_⟩⟩,rfl⟩,by simp,fun b hb=> .inl hb,CE.setRow w g _⟩
  ·simp only [List.length_append,List.length_take,List.length_drop,hlm,hxl];omega
  ·simp only [List.size_toArray,List.length_append,List.length_take,List.length_drop,hlm,hcl];omega
  rw [hlm,Nat.mul_one];simpa using hnew
 have hk:=h _ hst
 unfold Oper.wp execOp
 simp only [ho,resolve,invoke,builtin,Sem.run_bind,Sem.run_pure,Result.andThen_ok,List.map_toArray,List.map_cons,List.map_nil,hd2,hx,hr,hlm]
 rw [hlm] at hk
 exact hk
end
end Go.Proofs.YtkcbhcajfcfmmaaDoor
/-
  DERIVED:THE SHELF's CONTRACTS AT THIS DUMP,IN PLAIN WORDS (tools/lay-plain.mjs out of 'TrydShelf.lean',which tools/lay-shelf.mjs wrote):THE SAME DECLARATIONS UNDER THE SAME NAMES:'import', 'namespace', 'open', 'def', 'theorem' AND NOTHING ELSE:no command of the shelf's:FOR A HAND-IN. Each laying:the table of numbers ('.._ren') and one theorem,a field a fact of the dump's own or the kernel's comparison;each contract:ONE APPLICATION.
-/
namespace Go.Proofs
open Go.Shelf
def Tryd.lays185_ren:Go.Shelf.Ren:=⟨fun|185=>42|187=>52|115=>22|253=>53|224=>54|254=>55|255=>60|291=>61|n=>n,fun|37=>22|3=>3|4=>4|0=>0|5=>5|46=>70|9=>9|146=>97|51=>96|n=>n,fun|1=>0|n=>n⟩
theorem Tryd.lays185:Go.Proofs.Lays.n185 Tryd.prog Tryd.lays185_ren:={
  mixed:=by kernel_rfl
  f115:=Tryd.func22.trans (congrArg some (by kernel_rfl))
  f185:=Tryd.func42.trans (congrArg some (by kernel_rfl))
  f187:=Tryd.func52.trans (congrArg some (by kernel_rfl))
  f224:=Tryd.func54.trans (congrArg some (by kernel_rfl))
  f253:=Tryd.func53.trans (congrArg some (by kernel_rfl))
  f254:=Tryd.func55.trans (congrArg some (by kernel_rfl))
  f255:=Tryd.func60.trans (congrArg some (by kernel_rfl))
  f291:=Tryd.func61.trans (congrArg some (by kernel_rfl))
  t0:=Tryd.underlying0
  a0:=Tryd.isAgg0
  z0:=Tryd.sizeOf0
  v0:=Tryd.zeroValue0
  t3:=Tryd.underlying3
  a3:=Tryd.isAgg3
  z3:=Tryd.sizeOf3
  v3:=Tryd.zeroValue3
  t4:=Tryd.underlying4
  a4:=Tryd.isAgg4
  z4:=Tryd.sizeOf4
  v4:=Tryd.zeroValue4
  t5:=Tryd.underlying5
  a5:=Tryd.isAgg5
  z5:=Tryd.sizeOf5
  v5:=Tryd.zeroValue5
  t9:=Tryd.underlying9
  a9:=Tryd.isAgg9
  z9:=Tryd.sizeOf9
  v9:=Tryd.zeroValue9
  t37:=Tryd.underlying22
  a37:=Tryd.isAgg22
  z37:=Tryd.sizeOf22
  v37:=Tryd.zeroValue22
  t46:=Tryd.underlying70
  a46:=Tryd.isAgg70
  z46:=Tryd.sizeOf70
  v46:=Tryd.zeroValue70
  t51:=Tryd.underlying96
  a51:=Tryd.isAgg96
  z51:=Tryd.sizeOf96
  v51:=Tryd.zeroValue96
  t146:=Tryd.underlying97
  a146:=Tryd.isAgg97
  z146:=Tryd.sizeOf97
  v146:=Tryd.zeroValue97
  g1:=by kernel_rfl}
def Tryd.laysSlB13_ren:Go.Shelf.Ren:=⟨fun|13=>41|24=>50|25=>51|12=>42|31=>59|19=>52|20=>22|21=>53|22=>54|23=>55|29=>60|30=>61|n=>n,fun|22=>22|3=>3|4=>4|0=>0|5=>5|9=>9|33=>70|40=>97|39=>96|n=>n,fun|0=>0|n=>n⟩
theorem Tryd.laysSlB13:Go.Proofs.SlLaysB.n13 Tryd.prog Tryd.laysSlB13_ren:={
  mixed:=by kernel_rfl
  f13:=Tryd.func41.trans (congrArg some (by kernel_rfl))
  f25:=Tryd.func51.trans (congrArg some (by kernel_rfl))
  t0:=Tryd.underlying0
  a0:=Tryd.isAgg0
  z0:=Tryd.sizeOf0
  v0:=Tryd.zeroValue0
  t3:=Tryd.underlying3
  a3:=Tryd.isAgg3
  z3:=Tryd.sizeOf3
  v3:=Tryd.zeroValue3
  t4:=Tryd.underlying4
  a4:=Tryd.isAgg4
  z4:=Tryd.sizeOf4
  v4:=Tryd.zeroValue4
  t5:=Tryd.underlying5
  a5:=Tryd.isAgg5
  z5:=Tryd.sizeOf5
  v5:=Tryd.zeroValue5
  t22:=Tryd.underlying22
  a22:=Tryd.isAgg22
  z22:=Tryd.sizeOf22
  v22:=Tryd.zeroValue22}
open Go.RowKit Go.Lib in
/-- The same, s AT WHATEVER ADDRESS, its cells as 'open_ints' hands them ('a.add i'). (LAID: no walk: one application.) -/
theorem Tryd.bytes_Count_one_at(a:Addr)(n c b2 o2 d:Nat)(xs:List Int)(cv:Int)(w:World)(hx:xs.length=n)(hc:∀i,i<n→w.cell? (a.add i)=some (.int .u8 (xs.getD i 0)))(hc2:w.cell? ⟨b2,o2,none⟩=some (.int .u8 cv)):
    Calls Tryd.prog 41 #[.slice (some a) n c, .slice (some ⟨b2,o2,none⟩) 1 d] w fun e w'=>e= .returned (.int .i64 (Lib.countByte (Lib.bytesOf xs) cv.toNat.toUInt8))∧w'=w:=Any.bytes_Count_one_at Tryd.laysSlB13 a n c b2 o2 d xs cv w hx hc hc2
open Go.RowKit Go.Lib in
/-- The same where s is nil: 0. (LAID: no walk: one application.) -/
theorem Tryd.bytes_Count_one_nil(b2 o2 d:Nat)(cv:Int)(w:World)(hc2:w.cell? ⟨b2,o2,none⟩=some (.int .u8 cv)):
    Calls Tryd.prog 41 #[.slice none 0 0, .slice (some ⟨b2,o2,none⟩) 1 d] w fun e w'=>e= .returned (.int .i64 0)∧w'=w:=Any.bytes_Count_one_nil Tryd.laysSlB13 b2 o2 d cv w hc2
open Go.RowKit Go.Lib in
/-- bytes.Index at a separator of one byte, s at whatever address. (LAID: no walk: one application.) -/
theorem Tryd.bytes_Index_one_at(a:Addr)(n c b2 o2 d:Nat)(xs:List Int)(cv:Int)(w:World)(hx:xs.length=n)(hc:∀i,i<n→w.cell? (a.add i)=some (.int .u8 (xs.getD i 0)))(hc2:w.cell? ⟨b2,o2,none⟩=some (.int .u8 cv)):
    Calls Tryd.prog 42 #[.slice (some a) n c, .slice (some ⟨b2,o2,none⟩) 1 d] w fun e w'=>e= .returned (.int .i64 (Lib.indexByte (Lib.bytesOf xs) cv.toNat.toUInt8))∧w'=w:=Any.bytes_Index_one_at Tryd.lays185 a n c b2 o2 d xs cv w hx hc hc2
def Tryd.lays115_ren:Go.Shelf.Ren:=⟨fun|115=>22|n=>n,fun|37=>22|4=>4|9=>9|5=>5|n=>n,fun|n=>n⟩
open Go.Proofs Go.RowKit Go.Lib in
/-- bytes.Index, WHOLE: "Index returns the index of the first instance of sep in s, or -1 if sep is not present in s.": 'Lib.index' of the two lists of bytes. (LAID: no walk: one application.) -/
theorem Tryd.bytes_Index_at(a1 a2:Addr)(n c1 k c2:Nat)(xs ys:List Int)(m:Int)(w:World)(hx:xs.length=n)(hy:ys.length=k)(hr1:∀x∈xs,0≤x∧x<256)(hr2:∀y∈ys,0≤y∧y<256)(hc1:∀i,i<n→w.cell? (a1.add i)=some (.int .u8 (xs.getD i 0)))(hc2:∀i,i<k→w.cell? (a2.add i)=some (.int .u8 (ys.getD i 0)))(hcap:n≤c1)(hs:n<4294967281)(hk:k≤9223372036854775807)(hm:w.cell? ⟨0,0,none⟩=some (.int .i64 m)):
    Calls Tryd.prog 42 #[.slice (some a1) n c1, .slice (some a2) k c2] w fun e w'=>e= .returned (.int .i64 (Lib.index (Lib.bytesOf xs) (Lib.bytesOf ys)))∧∃q,w'=w.drewN q:=Any.bytes_Index_at Tryd.lays185 a1 a2 n c1 k c2 xs ys m w hx hy hr1 hr2 hc1 hc2 hcap hs hk hm
def Tryd.laysM185_ren:Go.Shelf.Ren:=⟨fun|185=>42|187=>52|115=>22|253=>53|224=>54|254=>55|255=>60|291=>61|n=>n,fun|37=>22|3=>3|4=>4|0=>0|5=>5|46=>70|9=>9|146=>97|51=>96|n=>n,fun|1=>0|n=>n⟩
theorem Tryd.laysM185:Go.Proofs.LaysM.n185 Tryd.prog Tryd.laysM185_ren:={
  mixed:=by kernel_rfl
  f115:=Tryd.func22.trans (congrArg some (by kernel_rfl))
  f185:=Tryd.func42.trans (congrArg some (by kernel_rfl))
  f187:=Tryd.func52.trans (congrArg some (by kernel_rfl))
  f224:=Tryd.func54.trans (congrArg some (by kernel_rfl))
  f253:=Tryd.func53.trans (congrArg some (by kernel_rfl))
  f254:=Tryd.func55.trans (congrArg some (by kernel_rfl))
  f255:=Tryd.func60.trans (congrArg some (by kernel_rfl))
  f291:=Tryd.func61.trans (congrArg some (by kernel_rfl))
  t0:=Tryd.underlying0
  a0:=Tryd.isAgg0
  z0:=Tryd.sizeOf0
  v0:=Tryd.zeroValue0
  t3:=Tryd.underlying3
  a3:=Tryd.isAgg3
  z3:=Tryd.sizeOf3
  v3:=Tryd.zeroValue3
  t4:=Tryd.underlying4
  a4:=Tryd.isAgg4
  z4:=Tryd.sizeOf4
  v4:=Tryd.zeroValue4
  t5:=Tryd.underlying5
  a5:=Tryd.isAgg5
  z5:=Tryd.sizeOf5
  v5:=Tryd.zeroValue5
  t9:=Tryd.underlying9
  a9:=Tryd.isAgg9
  z9:=Tryd.sizeOf9
  v9:=Tryd.zeroValue9
  t37:=Tryd.underlying22
  a37:=Tryd.isAgg22
  z37:=Tryd.sizeOf22
  v37:=Tryd.zeroValue22
  t46:=Tryd.underlying70
  a46:=Tryd.isAgg70
  z46:=Tryd.sizeOf70
  v46:=Tryd.zeroValue70
  t51:=Tryd.underlying96
  a51:=Tryd.isAgg96
  z51:=Tryd.sizeOf96
  v51:=Tryd.zeroValue96
  t146:=Tryd.underlying97
  a146:=Tryd.isAgg97
  z146:=Tryd.sizeOf97
  v146:=Tryd.zeroValue97
  g1:=by kernel_rfl
  i0:=by kernel_rfl
  i3:=by kernel_rfl
  i4:=by kernel_rfl
  i5:=by kernel_rfl
  i9:=by kernel_rfl
  i37:=by kernel_rfl
  i46:=by kernel_rfl
  i51:=by kernel_rfl
  i146:=by kernel_rfl
  m1:=by kernel_rfl
  s1_3:=fun w h=>Go.Proofs.cell_of_shapedOpen_int (zero:=#[.int .i64 0]) (t:=3) h (of_decide_eq_true (by kernel_rfl)) (by kernel_rfl) rfl (by kernel_rfl) (by kernel_rfl) Tryd.underlying3}
def Tryd.laysSlC13_ren:Go.Shelf.Ren:=⟨fun|13=>41|24=>50|25=>51|12=>42|31=>59|19=>52|20=>22|21=>53|22=>54|23=>55|29=>60|30=>61|n=>n,fun|22=>22|3=>3|4=>4|0=>0|5=>5|9=>9|33=>70|40=>97|39=>96|n=>n,fun|0=>0|n=>n⟩
theorem Tryd.laysSlC13:Go.Proofs.SlLaysC.n13 Tryd.prog Tryd.laysSlC13_ren:={
  mixed:=by kernel_rfl
  f12:=Tryd.func42.trans (congrArg some (by kernel_rfl))
  f13:=Tryd.func41.trans (congrArg some (by kernel_rfl))
  f19:=Tryd.func52.trans (congrArg some (by kernel_rfl))
  f20:=Tryd.func22.trans (congrArg some (by kernel_rfl))
  f21:=Tryd.func53.trans (congrArg some (by kernel_rfl))
  f22:=Tryd.func54.trans (congrArg some (by kernel_rfl))
  f23:=Tryd.func55.trans (congrArg some (by kernel_rfl))
  f25:=Tryd.func51.trans (congrArg some (by kernel_rfl))
  f29:=Tryd.func60.trans (congrArg some (by kernel_rfl))
  f30:=Tryd.func61.trans (congrArg some (by kernel_rfl))
  t0:=Tryd.underlying0
  a0:=Tryd.isAgg0
  z0:=Tryd.sizeOf0
  v0:=Tryd.zeroValue0
  t3:=Tryd.underlying3
  a3:=Tryd.isAgg3
  z3:=Tryd.sizeOf3
  v3:=Tryd.zeroValue3
  t4:=Tryd.underlying4
  a4:=Tryd.isAgg4
  z4:=Tryd.sizeOf4
  v4:=Tryd.zeroValue4
  t5:=Tryd.underlying5
  a5:=Tryd.isAgg5
  z5:=Tryd.sizeOf5
  v5:=Tryd.zeroValue5
  t9:=Tryd.underlying9
  a9:=Tryd.isAgg9
  z9:=Tryd.sizeOf9
  v9:=Tryd.zeroValue9
  t22:=Tryd.underlying22
  a22:=Tryd.isAgg22
  z22:=Tryd.sizeOf22
  v22:=Tryd.zeroValue22
  t33:=Tryd.underlying70
  a33:=Tryd.isAgg70
  z33:=Tryd.sizeOf70
  v33:=Tryd.zeroValue70
  t39:=Tryd.underlying96
  a39:=Tryd.isAgg96
  z39:=Tryd.sizeOf96
  v39:=Tryd.zeroValue96
  t40:=Tryd.underlying97
  a40:=Tryd.isAgg97
  z40:=Tryd.sizeOf97
  v40:=Tryd.zeroValue97
  g0:=by kernel_rfl}
open Go.RowKit Go.Lib in
/-- bytes.Count at a separator of two bytes or more: "Count counts the number of non-overlapping instances of sep in s.": 'Lib.count' of the two lists of bytes. (LAID: no walk: one application.) -/
theorem Tryd.bytes_Count_at(a1 a2:Addr)(n c1 k c2:Nat)(xs ys:List Int)(m:Int)(w:World)(hx:xs.length=n)(hy:ys.length=k)(hr1:∀x∈xs,0≤x∧x<256)(hr2:∀y∈ys,0≤y∧y<256)(hc1:∀i,i<n→w.cell? (a1.add i)=some (.int .u8 (xs.getD i 0)))(hc2:∀i,i<k→w.cell? (a2.add i)=some (.int .u8 (ys.getD i 0)))(hcap:n≤c1)(hs:n<4294967281)(hk:k≤9223372036854775807)(h2:2≤k)(hm:w.cell? ⟨0,0,none⟩=some (.int .i64 m)):
    Calls Tryd.prog 41 #[.slice (some a1) n c1, .slice (some a2) k c2] w fun e w'=>e= .returned (.int .i64 (Lib.count (Lib.bytesOf xs) (Lib.bytesOf ys)))∧∃q,w'=w.drewN q:=Any.bytes_Count_at Tryd.laysSlC13 a1 a2 n c1 k c2 xs ys m w hx hy hr1 hr2 hc1 hc2 hcap hs hk h2 hm
open Go.RowKit Go.Lib in
/-- bytes.Count at a separator of two bytes or more where s is nil: 0. (LAID: no walk: one application.) -/
theorem Tryd.bytes_Count_nil(p2:Option Addr)(k c2:Nat)(w:World)(h2:2≤k)(hk:k≤9223372036854775807):
    Calls Tryd.prog 41 #[.slice none 0 0, .slice p2 k c2] w fun e w'=>e= .returned (.int .i64 0)∧w'=w:=Any.bytes_Count_nil Tryd.laysSlC13 p2 k c2 w h2 hk
def Tryd.laysSlK4_ren:Go.Shelf.Ren:=⟨fun|4=>21|n=>n,fun|22=>22|4=>4|5=>5|n=>n,fun|n=>n⟩
theorem Tryd.laysSlK4:Go.Proofs.SlLaysK.n4 Tryd.prog Tryd.laysSlK4_ren:={
  mixed:=by kernel_rfl
  f4:=Tryd.func21.trans (congrArg some (by kernel_rfl))
  t4:=Tryd.underlying4
  a4:=Tryd.isAgg4
  z4:=Tryd.sizeOf4
  v4:=Tryd.zeroValue4
  t22:=Tryd.underlying22
  a22:=Tryd.isAgg22
  z22:=Tryd.sizeOf22
  v22:=Tryd.zeroValue22
  t5:=Tryd.underlying5
  i5:=by kernel_rfl}
open Go.RowKit Go.Lib in
/-- bytes.Clone: "Clone returns a copy of b[:len(b)]. The result may have additional unused capacity.": OF A SLICE THAT IS NOT nil IT RETURNS A SLICE THAT IS NOT nil, OF THE SAME BYTES, IN MEMORY OF THE CALL's OWN: in the how-to's words (6f): 'w'.ownsRow B e 1 v' n cells' · 'Below B w w'', B the heap's size at the call. b AT WHATEVER ADDRESS, its cells as 'open_ints' hands them ('a.add i'; the numbers 'xs'). No byte: no cell is asked for. (LAID: no walk: one application.) -/
theorem Tryd.bytes_Clone_at(a:Addr)(n c:Nat)(xs:List Int)(w:World)(hx:xs.length=n)(hbig:n≤140737488355328)(hc:∀i,i<n→w.cell? (a.add i)=some (.int .u8 (xs.getD i 0))):
    Calls Tryd.prog 21 #[.slice (some a) n c] w fun e w'=>∃v',e= .returned v'∧w'.ownsRow w.heap.size 5 1 v' n (xs.map (Value.int .u8))∧v'≠ .slice none 0 0∧Below w.heap.size w w':=Any.bytes_Clone_at Tryd.laysSlK4 a n c xs w hx hbig hc
open Go.RowKit Go.Lib in
/-- "Clone(nil) returns nil.": the world is as it was. (LAID: no walk: one application.) -/
theorem Tryd.bytes_Clone_nil(n c:Nat)(w:World):
    Calls Tryd.prog 21 #[.slice none n c] w fun e w'=>e= .returned (.slice none 0 0)∧w'=w:=Any.bytes_Clone_nil Tryd.laysSlK4 n c w
def Tryd.laysnb115_ren:Go.Shelf.Ren:=⟨fun|115=>22|n=>n,fun|37=>22|4=>4|9=>9|5=>5|n=>n,fun|n=>n⟩
theorem Tryd.laysnb115:Go.Proofs.Lays.nb115 Tryd.prog Tryd.laysnb115_ren:={
  mixed:=by kernel_rfl
  f115:=Tryd.func22.trans (congrArg some (by kernel_rfl))
  t4:=Tryd.underlying4
  a4:=Tryd.isAgg4
  z4:=Tryd.sizeOf4
  v4:=Tryd.zeroValue4
  t9:=Tryd.underlying9
  a9:=Tryd.isAgg9
  z9:=Tryd.sizeOf9
  v9:=Tryd.zeroValue9
  t37:=Tryd.underlying22
  a37:=Tryd.isAgg22
  z37:=Tryd.sizeOf22
  v37:=Tryd.zeroValue22
  t5:=Tryd.underlying5
  a5:=Tryd.isAgg5
  z5:=Tryd.sizeOf5
  v5:=Tryd.zeroValue5}
/-- bytes.Equal: WHOLE. (LAID: no walk: one application.) -/
theorem Tryd.bytes_Equal_all(p1 p2:Option Addr)(n c m d:Nat)(xs ys:List Int)(w:World)(hx:xs.length=n)(hy:ys.length=m)(h1:Lib.BytesIn w p1 n xs)(h2:Lib.BytesIn w p2 m ys):
    Calls Tryd.prog 22 #[.slice p1 n c, .slice p2 m d] w fun e w'=>e= .returned (.bool (Lib.bytesOf xs==Lib.bytesOf ys))∧w'=w:=Any.bytes_Equal_all Tryd.laysnb115 p1 p2 n c m d xs ys w hx hy h1 h2
end Go.Proofs
namespace Go.Proofs.YtkcbhcajfcfmmaaDoor
attribute [local irreducible] Region.wanted
open Go.RowKit
set_option linter.unusedVariables false
set_option maxRecDepth 100000
set_option maxHeartbeats 8000000
structure Aw(p:Prop):Prop where
 out:p
def pre(sep:List Int)(ps:List (List Int))(k:Nat):List Int:=(ps.take k).flatMap (· ++sep)
theorem Di(sep:List Int)(ps:List (List Int))(k:Nat)(h:k<ps.length):pre sep ps (k+1)=pre sep ps k++(ps[k]++sep):=by
 simp only [pre,List.take_succ_eq_append_getElem h,List.flatMap_append,List.flatMap_cons,List.flatMap_nil,List.append_nil]
theorem GO(sep:List Int)(ps:List (List Int))(j k:Nat)(h:j≤k):(pre sep ps j).length≤(pre sep ps k).length:=by
 have e:ps.take k=ps.take j++(ps.take k).drop j:=by
  conv=>lhs;rw [←List.take_append_drop j (ps.take k)]
  rw [List.take_take,Nat.min_eq_left h]
 simp only [pre]
 rw [e,List.flatMap_append,List.length_append]
 omega
theorem GQ(old new:List Int)(ps:List (List Int)):∀k,k≤ps.length→(pre new ps k).length+k*old.length=(pre old ps k).length+k*new.length
 | 0,_=>by simp [pre]
 | k+1,h=>by
   rw [Di new ps k (by omega),Di old ps k (by omega)]
   simp only [List.length_append]
   have:=GQ old new ps k (by omega)
   rw [Nat.add_mul,Nat.add_mul]
   omega
theorem D6(sep:List Int)(ps:List (List Int))(k m:Nat)(hm:ps.length=m)(h:k<ps.length):∃T,pre sep ps m=pre sep ps k++(ps[k]++(sep++T)):=by
 refine ⟨(ps.drop (k+1)).flatMap (· ++sep),?_⟩
 have e:ps=ps.take k++(ps[k]::ps.drop (k+1)):=by rw [List.getElem_cons_drop,List.take_append_drop]
 unfold pre
 rw [←hm,List.take_length]
 conv=>lhs;rw [e]
 rw [List.flatMap_append,List.flatMap_cons,List.append_assoc]
theorem Ez(X p:List Int)(L B z:Nat)(hX:X.length=B)(hp:p.length=z)(h:B+z≤L):((X++List.replicate (L-B) 0).map (Value.int .u8)).take B++p.map (Value.int .u8)++((X++List.replicate (L-B) 0).map (Value.int .u8)).drop (B+z)=((X++p)++List.replicate (L-(B+z)) 0).map (Value.int .u8):=by
 subst hX
 subst hp
 rw [←List.map_take,←List.map_drop,←List.map_append,←List.map_append,List.take_left' rfl,←List.drop_drop,List.drop_left' rfl,List.drop_replicate,Nat.sub_sub]
theorem Gn(g c:Nat):cutAt (some ⟨g,0,none⟩) c 0 1=some ⟨g,0,none⟩:=by
 unfold cutAt
 split
 ·rfl
 rw [Option.map_some,Addr.add_mid]
theorem EJ(w0:World)(a po pn:Option Addr)(n c lo co ln cn m:Nat)(ps:List (List Int))(last old new:List Int)(hm:ps.length=m)
 (hs:Sl w0 1 (.slice a n c) n ((pre old ps m++last).map (Value.int .u8))) (ho:Sl w0 1 (.slice po lo co) lo (old.map (Value.int .u8))) (hw:Sl w0 1 (.slice pn ln cn) ln (new.map (Value.int .u8)))
 (hlo:0<lo) (hb1:n≤1000000000) (hb2:lo≤1000) (hb3:ln≤1000)
 (HC:Aw (∀w,AX w0 w→Calls Tryd.prog 41 #[.slice a n c, .slice po lo co] w fun e w'=>e= .returned (.int .i64 m)∧AX w w'))
 (HI:Aw (∀k (h:k<ps.length) w,AX w0 w→Calls Tryd.prog 42 #[.slice (cutAt a c (pre old ps k).length 1) (n-(pre old ps k).length) (c-(pre old ps k).length), .slice po lo co] w fun e w'=>e= .returned (.int .i64 (ps[k].length:Nat))∧AX w w')):
 Calls Tryd.prog 31 #[.slice a n c, .slice po lo co, .slice pn ln cn, .int .i64 (-1)] w0 fun e w=>∃(ao:Option Addr) (c':Nat),e= .returned (.slice ao (pre new ps m++last).length c')∧St w0 w [own 5 1 ao (pre new ps m++last).length c' ((pre new ps m++last).map (Value.int .u8))]:=by
 have hS:=St.start w0
 have hxl:(pre old ps m++last).length=n:=by have:=hs.1;simpa using this
 have hol:old.length=lo:=by have:=ho.1;simpa using this
 have hnl:new.length=ln:=by have:=hw.1;simpa using this
 have hnc:n≤c:=by obtain ⟨_,_,_,h1,h2,_⟩:=hs;cases h1;exact h2
 have hc9:c≤9223372036854775807:=by obtain ⟨_,_,_,h1,_,h2,_⟩:=hs;cases h1;unfold maxLen at h2;exact h2
 have hpl:=GQ old new ps m (by omega)
 rw [hol,hnl] at hpl
 rw [List.length_append] at hxl
 obtain ⟨L,hL⟩:∃L,(pre new ps m++last).length=L:=⟨_,rfl⟩
 have hL2:=hL
 rw [List.length_append] at hL2
 have hmlo:m≤m*lo:=Nat.le_mul_of_pos_right m hlo
 have hmn:m≤n:=by
  have:m*lo≤(pre old ps m).length:=by
   have h0:=GQ old [] ps m (by omega)
   rw [hol] at h0
   simp only [List.length_nil,Nat.mul_zero,Nat.add_zero] at h0
   omega
  omega
 by_cases h0:m=0
 ·subst h0
  have e0:pre old ps 0++last=pre new ps 0++last:=by simp [pre]
  rw [e0] at hs
  obtain ⟨R,hR⟩:∃R,pre new ps 0++last=R:=⟨_,rfl⟩
  rw [hR] at hL hs⊢
  rw [hL]
  have hLn:L=n:=by have:=hs.1;rw [←hL];simpa using this
  subst hLn
  clear hpl hL2 HI hmlo hxl e0
  go_enter Tryd.func31,Tryd.ntmps31
  repeat' (first
   | (refine Am 41 ?_);refine An AB Tryd.call41 (HC.out _ hS.1) (Gd hS ?_);clear hS;intro w hS;go_step|refine X0 ?_|refine NM ?_|refine Ns ?_|refine NH 25 ?_;clear hS;intro ad25 c25 w hS|refine AG ?_;go_step|fail)
  rw [Nat.zero_add,List.nil_append] at hS
  go_ret
  refine ⟨ad25,c25,?_,hS.sub Ao⟩
  show Ending.returned (.slice ad25 (0+L) c25)=_
  rw [Nat.zero_add]
 have hLb:L≤2000000000000:=by
  have:m*ln≤1000000000*1000:=Nat.mul_le_mul (by omega) hb3
  omega
 have hLe:(L:Int)=(n:Int)+(m:Int)*((ln:Int)-(lo:Int)):=by
  have h1:((m:Int)*((ln:Int)-(lo:Int)))=((m*ln:Nat):Int)-((m*lo:Nat):Int):=by push_cast;rw [Int.mul_sub]
  rw [h1];omega
 have hmul:IntKind.i64.wrap ((m:Int)*((ln:Int)-(lo:Int)))=(L:Int)-(n:Int):=by
  rw [show (m:Int)*((ln:Int)-(lo:Int))=(L:Int)-(n:Int) by omega]
  exact IntWalk.i64_in _ (by omega)
 have HMul:=AD hmul
 have HXs:∀k,k≤m→(pre old ps k).length≤n:=fun k hk=>by have:=GO old ps k m hk;omega
 have HWs:∀k,k≤m→(pre new ps k).length≤L:=fun k hk=>by have:=GO new ps k m hk;omega
 have HXs2:Aw _:=⟨HXs⟩
 have HWs2:Aw _:=⟨HWs⟩
 have HL:Aw ((pre new ps m++last).length=L):=⟨hL⟩
 obtain ⟨R,hR⟩:∃R,pre new ps m++last=R:=⟨_,rfl⟩
 have HR:Aw (pre new ps m++last=R):=⟨hR⟩
 rw [hR] at hL⊢
 rw [hL]
 have HXL:Aw ((pre old ps m).length+last.length=n):=⟨hxl⟩
 have HWL:Aw ((pre new ps m).length+last.length=L):=⟨hL2⟩
 have HM:Aw (ps.length=m):=⟨hm⟩
 have HPL:Aw _:=⟨hpl⟩
 clear hpl hxl hL2 hmlo hLe hmul HXs HWs hR hm
 go_enter Tryd.func31,Tryd.ntmps31
 repeat' (first
  | (refine Am 41 ?_);refine An AB Tryd.call41 (HC.out _ hS.1) (Gd hS ?_);clear hS;intro w hS;go_step|(refine AU 42 ?_);refine AP (.int .i64 ((L:Int)-(n:Int))) (V.as (V.mul rfl rfl) (by have:=HMul.out;first|exact this|(rw [IntWalk.i64_in _ (by omega)];exact this))) AB ?_;go_step|(refine AU 43 ?_);(refine AP (.int _ (((L:Nat):Int))) (V.as (V.addI rfl rfl (by omega)) (by omega)) (by kernel_rfl) ?_;go_step)|go_skip|refine X0 ?_|refine X5 ?_|refine X6 27 ?_ ?_<;>intro hB<;>(try exact Ar)<;>go_step|refine NM ?_|refine Ns ?_|refine Lw ?_|refine OI ?_|refine K8 ?_|(refine AU 44 ?_);(refine A3 ?_;apply Lt (o:=⟨some 44,_,_,_,_,_⟩) hS 22 _ _ rfl _ _ _ _ NY _ _ _ _ _ _ rfl rfl;(case hi=>exact BL);(case hj=>exact BL);(case hnm=>omega);(case hb=>omega);(case h63=>unfold maxLen;omega);clear hS;intro g44 w hS;refine AC ?_;go_step)|refine AG ?_;go_step|fail)
 go_loopg [11,12,49] m (fun gk wv sv iv w=>∃k:Nat,gk+k=m∧iv= .int .i64 k∧sv= .int .i64 ((pre old ps k).length:Nat)∧wv= .int .i64 ((pre new ps k).length:Nat)∧St w0 w [own 5 1 (some ⟨g44,0,none⟩) L L ((pre new ps k++List.replicate (L-(pre new ps k).length) 0).map (Value.int .u8))])
 case atStart=>
  refine ⟨0,rfl,rfl,rfl,rfl,?_⟩
  rw [Nat.mul_one] at hS
  have e:pre new ps 0=[]:=rfl
  rw [e,List.nil_append,List.length_nil,Nat.sub_zero]
  exact hS.sub Ao
 case round=>
  clear hS
  obtain ⟨k,hk,rfl,rfl,rfl,hS⟩:=hrel
  by_cases hlt:k<m
  ·have hkp:k<ps.length:=by rw [HM.out];exact hlt
   have hIk:=HI.out k hkp
   have e1:=Di old ps k hkp
   have e2:=Di new ps k hkp
   have l1:=HXs2.out (k+1) hlt
   have l2:=HWs2.out (k+1) hlt
   obtain ⟨p,hp⟩:∃p,ps[k]=p:=⟨_,rfl⟩
   rw [hp] at hIk e1 e2
   rw [e1] at l1
   rw [e2] at l2
   obtain ⟨T,hT⟩:=D6 old ps k m HM.out hkp
   rw [hp] at hT
   have hxs:pre old ps m++last=pre old ps k++(p++(old++T++last)):=by rw [hT];simp only [List.append_assoc]
   obtain ⟨A,hA⟩:∃A,(pre old ps k).length=A:=⟨_,rfl⟩
   obtain ⟨X,hX⟩:∃X,pre new ps k=X:=⟨_,rfl⟩
   rw [hX] at e2 l2 hS⊢
   obtain ⟨B,hB⟩:∃B,X.length=B:=⟨_,rfl⟩
   obtain ⟨z,hz⟩:∃z,p.length=z:=⟨_,rfl⟩
   simp only [List.length_append,hA,hB,hz,hol,hnl] at l1 l2
   rw [hA,hz] at hIk
   rw [hA]
   rw [hB] at hS⊢
   have hsp:∀w,AX w0 w→Sl w 1 (.slice (cutAt a c A 1) (A+z-A) (c-A)) (A+z-A) (p.map (Value.int .u8)):=fun w hx=>by
    have h1:=(hs.ext hx).cutAt A (A+z) (by omega) (by omega)
    have h2:(((pre old ps m++last).map (Value.int .u8)).drop (A*1)).take ((A+z-A)*1)=p.map (Value.int .u8):=by
     rw [Nat.mul_one,Nat.mul_one,←List.map_drop,←List.map_take,hxs,List.drop_left' hA,Nat.add_sub_cancel_left,List.take_left' hz]
    rw [h2] at h1
    exact h1
   have HIK:Aw _:=⟨hIk⟩
   have HSP:Aw _:=⟨hsp⟩
   have F1:=AD (Ez X p L B z hB hz (by omega))
   have F2:=AD (Ez (X++p) new L (B+z) ln (by rw [List.length_append,hB,hz]) hnl (by omega))
   have N1:Aw ((pre old ps (k+1)).length=A+z+lo):=⟨by rw [e1];simp only [List.length_append,hA,hz,hol];omega⟩
   have N2:Aw (pre new ps (k+1)=X++p++new):=⟨by rw [e2,List.append_assoc]⟩
   have N3:Aw ((X++p++new).length=B+z+ln):=⟨by simp only [List.length_append,hB,hz,hnl]⟩
   clear hIk hsp e1 e2 hp hxs hT hA hX hB hz hkp
   repeat' (first
    | (refine Am 42 ?_);refine An AB Tryd.call42 (HIK.out _ hS.1) (Gd hS ?_);clear hS;intro w hS;go_step|(refine AU 57 ?_);(refine AP (.int _ (((A+z:Nat):Int))) (V.as (V.addI rfl rfl (by omega)) (by omega)) (by kernel_rfl) ?_;go_step)|refine X0 ?_|refine X3 ?_|refine Nz ?_|refine AG ?_;go_step|fail)
   refine AZ [] (fun _=>True) AB ?_
   replace hS:=hS.drew
   focus
    refine Ai 0 ?_
    refine Ai 1 ?_
    refine Ai 2 ?_
    refine Y3 3 ?_
    refine Ai 4 ?_
    refine Ai 5 ?_
    refine Ai 6 ?_
    refine Y3 7 ?_
    refine Cb 8 ?_
    refine FA (o:=⟨some 66,_,_,_,_,_⟩) hS _ _ 22 rfl 5 1 Ei g44 B L L _ rfl AQ _ rfl (A+z-A) _ (HSP.out _ hS.1) (by omega) (by exact BE _ _) ?_;clear hS;intro w hS;rw [Nat.add_sub_cancel_left,F1.out] at hS
    refine Oq ?_;go_step
    (refine BJ 9 (.int _ (((B+z:Nat):Int))) Cf AB AB AB Cv (V.as (V.addI rfl rfl (by omega)) (by omega)) AB ?_)
    go_step
    refine Ai 10 ?_
    refine AO AB ?_ _
   repeat' (first
    | (refine AU 73 ?_);refine A3 ?_;refine FA (o:=⟨some 73,_,_,_,_,_⟩) hS _ _ 22 rfl 5 1 Ei g44 (B+z) L L _ rfl AQ _ rfl ln _ (hw.ext hS.1) (by omega) (by exact BE _ _) ?_;clear hS;intro w hS;rw [F2.out] at hS;refine AC ?_;go_step|(refine AU 74 ?_);(refine AP (.int _ (((B+z+ln:Nat):Int))) (V.as (V.addI rfl rfl (by omega)) (by omega)) (by kernel_rfl) ?_;go_step)|(refine AU 78 ?_);(refine AP (.int _ (((A+z+lo:Nat):Int))) (V.as (V.addI rfl rfl (by omega)) (by omega)) (by kernel_rfl) ?_;go_step)|refine X0 ?_|refine Nz ?_|refine Ge ?_|refine Lw ?_|refine AG ?_;go_step|fail)
   go_roundg (gk-1)
   case measure=>omega
   case rel=>
    refine ⟨k+1,by omega,by go_num,by rw [N1.out],by rw [N2.out,N3.out],?_⟩
    rw [N2.out,N3.out]
    exact hS.sub Ao
  obtain rfl:k=m:=by omega
  have hA0:=HXL.out
  have hB0:=HWL.out
  obtain ⟨A,hA⟩:∃A,(pre old ps k).length=A:=⟨_,rfl⟩
  obtain ⟨B,hB⟩:∃B,(pre new ps k).length=B:=⟨_,rfl⟩
  obtain ⟨z,hz⟩:∃z,last.length=z:=⟨_,rfl⟩
  rw [hA,hz] at hA0
  rw [hB,hz] at hB0
  rw [hA]
  rw [hB] at hS⊢
  have hsp:∀w,AX w0 w→Sl w 1 (.slice (cutAt a c A 1) (n-A) (c-A)) (n-A) (last.map (Value.int .u8)):=fun w hx=>by
   have h1:=(hs.ext hx).cutAt A n (by omega) (Nat.le_refl _)
   have h2:(((pre old ps k++last).map (Value.int .u8)).drop (A*1)).take ((n-A)*1)=last.map (Value.int .u8):=by
    rw [Nat.mul_one,Nat.mul_one,←List.map_drop,←List.map_take,List.drop_left' hA,List.take_of_length_le (by omega)]
   rw [h2] at h1
   exact h1
  have HSP:Aw _:=⟨hsp⟩
  have hnA:n-A=z:=by omega
  have HnA:Aw (n-A=z):=⟨hnA⟩
  have F1:=AD (Ez (pre new ps k) last L B z hB hz (by omega))
  have F3:Aw (pre new ps k++last++List.replicate (L-(B+z)) 0=R):=⟨by rw [HR.out,show L-(B+z)=0 by omega];simp⟩
  clear hsp hA hB hz hnA
  repeat' (first
   | refine X3 ?_|refine AG ?_;go_step|fail)
  refine AZ [] (fun _=>True) AB ?_
  replace hS:=hS.drew
  focus
   refine Ai 0 ?_
   refine Ai 1 ?_
   refine Ai 2 ?_
   refine Y3 3 ?_
   refine Ai 4 ?_
   refine Ai 5 ?_
   refine Y3 6 ?_
   refine Cb 7 ?_
   refine FA (o:=⟨some 127,_,_,_,_,_⟩) hS _ _ 22 rfl 5 1 Ei g44 B L L _ rfl AQ _ rfl (n-A) _ (HSP.out _ hS.1) (by omega) (by exact BE _ _) ?_;clear hS;intro w hS;rw [HnA.out,F1.out,F3.out] at hS
   refine Oq ?_;go_step
   (refine BJ 8 (.int _ (((L:Nat):Int))) Cf AB AB AB Cv (V.as (V.addI rfl rfl (by omega)) (by omega)) AB ?_)
   go_step
   refine Ai 9 ?_
   refine AO AB ?_ _
  repeat' (first
   | refine X0 ?_|refine Nz ?_|refine AG ?_;go_step|fail)
  go_ret
  refine ⟨some ⟨g44,0,none⟩,L,?_,hS.sub Ao⟩
  show Ending.returned (.slice (cutAt (some ⟨g44,0,none⟩) L 0 1) (L-0) (L-0))=_
  rw [Gn]
  rfl
def DE(b:Int):List Int→List (List Int)×List Int
 | []=>([],[])
 | x::l=>if x=b then ([]::(DE b l).1,(DE b l).2) else
   match (DE b l).1 with
   | []=>([],x::(DE b l).2)
   | p::ps=>((x::p)::ps,(DE b l).2)
def EO(b:Int)(new l:List Int):List Int:=l.flatMap fun x=>if x=b then new else [x]
theorem I0(sep:List Int)(ps:List (List Int)):pre sep ps ps.length=ps.flatMap (· ++sep):=by simp [pre]
theorem Dl(b:Int)(new:List Int):∀l,(DE b l).1.flatMap (· ++[b])++(DE b l).2=l∧(DE b l).1.flatMap (· ++new)++(DE b l).2=EO b new l∧(DE b l).1.length=l.count b∧(∀p∈(DE b l).1,b∉p)
 | []=>by simp [DE,EO]
 | x::l=>by
   obtain ⟨h1,h2,h3,h4⟩:=Dl b new l
   by_cases hx:x=b
   ·subst hx
    refine ⟨?_,?_,?_,?_⟩
    ·simp only [DE,if_true,List.flatMap_cons,List.nil_append,List.cons_append,h1]
    ·simp only [DE,if_true,List.flatMap_cons,List.nil_append,List.append_assoc,h2];simp [EO]
    ·simp [DE,h3]
    intro p hp
    simp only [DE,if_true,List.mem_cons] at hp
    rcases hp with rfl|hp
    ·simp
    exact h4 p hp
   cases hs:(DE b l).1 with
   | nil=>
     rw [hs] at h1 h2 h3
     simp only [List.flatMap_nil,List.nil_append] at h1 h2
     refine ⟨?_,?_,?_,?_⟩
     ·simp [DE,if_neg hx,hs,h1]
     ·simp only [DE,if_neg hx,hs,List.flatMap_nil,List.nil_append,h2];simp [EO,hx]
     ·simp only [DE,if_neg hx,hs,List.length_nil];rw [List.count_cons_of_ne (by simpa using hx)];simpa using h3
     simp [DE,if_neg hx,hs]
   | cons p ps=>
     rw [hs] at h1 h2 h3 h4
     refine ⟨?_,?_,?_,?_⟩
     ·simp only [DE,if_neg hx,hs,List.flatMap_cons,List.cons_append] at h1⊢;rw [h1]
     ·simp only [DE,if_neg hx,hs,List.flatMap_cons,List.cons_append] at h2⊢;rw [h2];simp [EO,hx]
     ·simp only [DE,if_neg hx,hs,List.length_cons] at h3⊢;rw [List.count_cons_of_ne (by simpa using hx)];exact h3
     intro q hq
     simp only [DE,if_neg hx,hs,List.mem_cons] at hq
     rcases hq with rfl|hq
     ·have:=h4 p (by simp);simp only [List.mem_cons,not_or];exact ⟨fun e=>hx e.symm,this⟩
     exact h4 q (by simp [hq])
theorem MB{x b:Int}(hx:0≤x∧x<256)(hb:0≤b∧b<256):(UInt8.ofNat x.toNat==UInt8.ofNat b.toNat)=decide (x=b):=by
 by_cases h:x=b
 ·subst h;simp
 rw [decide_eq_false h,beq_eq_false_iff_ne]
 intro e
 have:=congrArg UInt8.toNat e
 simp only [UInt8.toNat_ofNat'] at this
 omega
theorem EE{b:Int}(hb:0≤b∧b<256):∀(l:List Int),(∀x∈l,0≤x∧x<256)→Lib.countByte (Lib.bytesOf l) (UInt8.ofNat b.toNat)=l.count b
 | [],_=>rfl
 | x::l,h=>by
   have ih:=EE hb l fun y hy=>h y (by simp [hy])
   have hx:=MB (h x (by simp)) hb
   simp only [Lib.countByte,Lib.bytesOf,List.map_cons,List.count_cons] at ih⊢
   rw [ih,hx]
   by_cases e:x=b<;>simp [e]
theorem EF{b:Int}(hb:0≤b∧b<256):∀(p T:List Int),(∀x∈p,0≤x∧x<256)→b∉p→Lib.indexByte (Lib.bytesOf (p++b::T)) (UInt8.ofNat b.toNat)=(p.length:Nat)
 | [],T,_,_=>by simp [Lib.bytesOf,Lib.indexByte]
 | x::p,T,h,hn=>by
   have ih:=EF hb p T (fun y hy=>h y (by simp [hy])) (fun e=>hn (by simp [e]))
   have hx:=MB (h x (by simp)) hb
   have hxb:x≠b:=fun e=>hn (by simp [e])
   rw [decide_eq_false hxb] at hx
   simp only [List.cons_append,Lib.bytesOf,List.map_cons,Lib.indexByte] at ih⊢
   rw [hx,ih]
   simp only [Bool.false_eq_true,if_false,List.length_cons]
   rw [if_neg]
   ·push_cast;omega
   simp only [beq_iff_eq];omega
theorem Ct{w:World}{a:Addr}{n c:Nat}{xs:List Int}(hv:Sl w 1 (.slice (some a) n c) n (xs.map (Value.int .u8))):∀i,i<n→w.cell? (a.add i)=some (.int .u8 (xs.getD i 0)):=fun i hi=>by
 obtain ⟨hl,a1,c1,e1,hnc,hcm,hor⟩:=hv
 cases e1
 have hln:xs.length=n:=by simpa using hl
 rcases hor with h0|⟨b,off,h,hc⟩
 ·omega
 cases h
 rw [Addr.add_mid,hc i (by omega)]
 simp [List.getD,hln,hi]
theorem G7{w:World}{po:Option Addr}{co:Nat}{b:Int}(hv:Sl w 1 (.slice po 1 co) 1 ([b].map (Value.int .u8))):∃b2 o2,po=some ⟨b2,o2,none⟩∧w.cell? ⟨b2,o2,none⟩=some (.int .u8 b):=by
 obtain ⟨hl,a1,c1,e1,hnc,hcm,hor⟩:=hv
 cases e1
 rcases hor with h0|⟨b2,off,h,hc⟩
 ·omega
 exact ⟨b2,off,h,by have:=hc 0 (by decide);simpa using this⟩
theorem MC{b:Int}:b.toNat.toUInt8=UInt8.ofNat b.toNat:=rfl
theorem IA(w:World)(a po:Option Addr)(n c co:Nat)(xs:List Int)(b:Int)(hs:Sl w 1 (.slice a n c) n (xs.map (Value.int .u8)))(hnil:a=none→c=0)(ho:Sl w 1 (.slice po 1 co) 1 ([b].map (Value.int .u8)))(hb:0≤b∧b<256)(hx:∀x∈xs,0≤x∧x<256):
 Calls Tryd.prog 41 #[.slice a n c, .slice po 1 co] w fun e w'=>e= .returned (.int .i64 (xs.count b:Nat))∧AX w w':=by
 obtain ⟨b2,o2,rfl,hc2⟩:=G7 ho
 have hln:xs.length=n:=by have:=hs.1;simpa using this
 cases a with
 | none=>
   have hc0:=hnil rfl
   subst hc0
   have hn0:n=0:=by obtain ⟨_,_,_,h1,h2,_⟩:=hs;cases h1;omega
   subst hn0
   have hxs:xs=[]:=List.eq_nil_of_length_eq_zero hln
   subst hxs
   exact (Tryd.bytes_Count_one_nil b2 o2 co b w hc2).mono fun e w' ⟨h1,h2⟩=>⟨h1,h2▸ AX.refl _⟩
 | some a=>
   exact (Tryd.bytes_Count_one_at a n c b2 o2 co xs b w hln (Ct hs) hc2).mono fun e w' ⟨h1,h2⟩=>⟨by rw [h1,MC,EE hb xs hx],h2▸ AX.refl _⟩
theorem IL(w:World)(a po:Option Addr)(n c co:Nat)(p T:List Int)(b:Int)(hs:Sl w 1 (.slice a n c) n ((p++b::T).map (Value.int .u8)))(ho:Sl w 1 (.slice po 1 co) 1 ([b].map (Value.int .u8)))(hb:0≤b∧b<256)(hx:∀x∈p,0≤x∧x<256)(hp:b∉p):
 Calls Tryd.prog 42 #[.slice a n c, .slice po 1 co] w fun e w'=>e= .returned (.int .i64 (p.length:Nat))∧AX w w':=by
 obtain ⟨b2,o2,rfl,hc2⟩:=G7 ho
 have hln:(p++b::T).length=n:=by have:=hs.1;simpa using this
 cases a with
 | none=>
   obtain ⟨_,_,_,h1,h2,h3,h4⟩:=hs
   cases h1
   rcases h4 with h4|⟨_,_,h4,_⟩
   ·rw [List.length_append,List.length_cons] at hln;omega
   cases h4
 | some a=>
   exact (Tryd.bytes_Index_one_at a n c b2 o2 co (p++b::T) b w hln (Ct hs) hc2).mono fun e w' ⟨h1,h2⟩=>⟨by rw [h1,MC,EF hb p T hx hp],h2▸ AX.refl _⟩
theorem Ew(w0:World)(a po pn:Option Addr)(n c co ln cn:Nat)(xs new:List Int)(b:Int)(hs:Sl w0 1 (.slice a n c) n (xs.map (Value.int .u8)))(hnil:a=none→c=0)(ho:Sl w0 1 (.slice po 1 co) 1 ([b].map (Value.int .u8)))(hw:Sl w0 1 (.slice pn ln cn) ln (new.map (Value.int .u8)))
 (hb:0≤b∧b<256) (hx:∀x∈xs,0≤x∧x<256) (hb1:n≤1000000000) (hb3:ln≤1000):
 Calls Tryd.prog 17 #[.slice a n c, .slice po 1 co, .slice pn ln cn] w0 fun e w=>∃(ao:Option Addr) (c':Nat),e= .returned (.slice ao (EO b new xs).length c')∧St w0 w [own 5 1 ao (EO b new xs).length c' ((EO b new xs).map (Value.int .u8))]:=by
 obtain ⟨h1,h2,h3,h4⟩:=Dl b new xs
 obtain ⟨ps,hps⟩:∃ps,(DE b xs).1=ps:=⟨_,rfl⟩
 obtain ⟨last,hlast⟩:∃l,(DE b xs).2=l:=⟨_,rfl⟩
 rw [hps,hlast] at h1 h2
 rw [hps] at h3 h4
 rw [←I0] at h1 h2
 have hmem:∀k (h:k<ps.length),∃T,xs.drop (pre [b] ps k).length=ps[k]++b::T:=fun k h=>by
  obtain ⟨T,hT⟩:=D6 [b] ps k ps.length rfl h
  refine ⟨T++last,?_⟩
  rw [←h1,hT,List.append_assoc,List.drop_left' rfl]
  simp
 have HC:Aw (∀w,AX w0 w→Calls Tryd.prog 41 #[.slice a n c, .slice po 1 co] w fun e w'=>e= .returned (.int .i64 (ps.length:Nat))∧AX w w'):=⟨fun w hE=>h3▸ IA w a po n c co xs b (hs.ext hE) hnil (ho.ext hE) hb hx⟩
 have HI:Aw (∀k (h:k<ps.length) w,AX w0 w→Calls Tryd.prog 42 #[.slice (cutAt a c (pre [b] ps k).length 1) (n-(pre [b] ps k).length) (c-(pre [b] ps k).length), .slice po 1 co] w fun e w'=>e= .returned (.int .i64 (ps[k].length:Nat))∧AX w w'):=⟨fun k h w hE=>by
  obtain ⟨T,hT⟩:=hmem k h
  have hln:xs.length=n:=by have:=hs.1;simpa using this
  have hle:(pre [b] ps k).length≤n:=by
   have:=GO [b] ps k ps.length (by omega)
   have h5:=congrArg List.length h1
   rw [List.length_append] at h5
   omega
  have hsl:=(hs.ext hE).cutAt (pre [b] ps k).length n hle (Nat.le_refl _)
  have h6:((xs.map (Value.int .u8)).drop ((pre [b] ps k).length*1)).take ((n-(pre [b] ps k).length)*1)=(ps[k]++b::T).map (Value.int .u8):=by
   rw [Nat.mul_one,Nat.mul_one,←List.map_drop,←List.map_take,List.take_of_length_le (by rw [List.length_drop];omega),hT]
  rw [h6] at hsl
  refine IL w _ po _ _ co ps[k] T b hsl (ho.ext hE) hb (fun x hxm=>hx x ?_) (h4 _ (List.getElem_mem h))
  have:x∈xs.drop (pre [b] ps k).length:=by rw [hT];simp [hxm]
  exact List.mem_of_mem_drop this⟩
 have HR:=EJ w0 a po pn n c 1 co ln cn ps.length ps last [b] new rfl (h1.symm▸ hs) ho hw (by decide) hb1 (by decide) hb3 HC HI
 rw [h2] at HR
 have HRv:Aw _:=⟨HR⟩
 have hS:=St.start w0
 clear HC HI HR hmem h1 h2 h3 h4 hps hlast
 obtain ⟨R,hR⟩:∃R,EO b new xs=R:=⟨_,rfl⟩
 rw [hR] at HRv⊢
 clear hR
 go_enter Tryd.func17,Tryd.ntmps17
 repeat' (first
  | (refine Am 31 ?_);refine An AB Tryd.call31 (HRv.out) ?_;rintro e w ⟨ao,c',rfl,hS2⟩;replace hS:=hS2;clear hS2;refine As ?_;go_step|refine X0 ?_|refine AG ?_;go_step|fail)
 go_ret
 exact ⟨ao,c',rfl,hS⟩
def ET(l:List Int):List Int:=EO 255 [255,0] l
theorem Fr(w0:World)(a:Option Addr)(n c:Nat)(xs:List Int)(hs:Sl w0 1 (.slice a n c) n (xs.map (Value.int .u8)))(hnil:a=none→c=0)(hx:∀x∈xs,0≤x∧x<256)(hb1:n≤1000000000):
 Calls Tryd.prog 7 #[.slice a n c] w0 fun e w=>∃(ao:Option Addr) (c':Nat),e= .returned (.slice ao (ET xs).length c')∧St w0 w [own 5 1 ao (ET xs).length c' ((ET xs).map (Value.int .u8))]:=by
 have hS:=St.start w0
 have HX:Aw _:=⟨hx⟩
 clear hx
 go_enter Tryd.func7,Tryd.ntmps7
 repeat' (first
  | (refine Am 17 ?_);refine An AB Tryd.call17 (Ew _ a (some ⟨g4,0,none⟩) (some ⟨g5,0,none⟩) n c 1 2 2 xs [255,0] 255 (hs.ext hS.1) hnil (hS.slBlk (n:=1) (cs:=[.int .u8 255]) AQ (by rfl) (by decide)) (hS.slBlk (n:=2) (cs:=[.int .u8 255, .int .u8 0]) AQ (by rfl) (by decide)) (by decide) HX.out hb1 (by decide)) ?_;rintro e w ⟨ao,c',rfl,hS2⟩;replace hS:=hS.call1 hS2;clear hS2;refine As ?_;go_step|refine X0 ?_|refine Mr 4 ?_;clear hS;intro g4 w hS|refine Ms 5 ?_;clear hS;intro g5 w hS|refine AG ?_;go_step|fail)
 go_ret
 refine ⟨ao,c',rfl,?_⟩
 unfold ET
 exact hS.sub Ao
def star(rs:List Ac):Ac:=Oa fun _:Unit=>rs
theorem St.star0{W w:World}{rs:List Ac}(h:St W w rs):St W w (Go.Proofs.YtkcbhcajfcfmmaaDoor.star []::rs):=St.close () h
theorem St.starPut{W w:World}{r:Ac}{ss rs rs':List Ac}(h:St W w (Go.Proofs.YtkcbhcajfcfmmaaDoor.star ss::rs))(p:AI r rs rs'):St W w (Go.Proofs.YtkcbhcajfcfmmaaDoor.star (ss++[r])::rs'):=by
 have h1:St W w (r::Go.Proofs.YtkcbhcajfcfmmaaDoor.star ss::rs'):=h.pull (.tail p)
 obtain ⟨_,h2⟩:=(h1.pull (.tail .head)).open
 refine St.close () ?_
 have h3:St W w (ss++(r::rs')):=h2
 simpa using h3
theorem AI.mem{r:Ac}:∀{ss:List Ac} (rs:List Ac),r∈ss→∃ss',AI r (ss++rs) ss'
 | [],_,h=>by cases h
 | x::ss,rs,h=>by
   by_cases hx:r=x
   ·subst hx;exact ⟨_, .head⟩
   obtain ⟨s,hs⟩:=AI.mem (ss:=ss) rs ((List.mem_cons.1 h).resolve_left hx);exact ⟨x::s, .tail hs⟩
theorem St.starGet{W w:World}{ss rs rs':List Ac}(h:St W w rs)(p:AI (Go.Proofs.YtkcbhcajfcfmmaaDoor.star ss) rs rs'){r:Ac}(hr:r∈ss):∃rs'',St W w (r::rs''):=by
 obtain ⟨_,h2⟩:=(h.pull p).open
 obtain ⟨s,hs⟩:=AI.mem rs' hr
 exact ⟨s,h2.pull hs⟩
structure Pc where
 ad:Option Addr
 c:Nat
 xs:List Int
def Pc.val(p:Pc):Value:= .slice p.ad p.xs.length p.c
def Pc.res(p:Pc):Ac:=own 5 1 p.ad p.xs.length p.c (p.xs.map (Value.int .u8))
theorem Ix{W w:World}{pcs:List Pc}{rs rs':List Ac}(h:St W w rs)(p:AI (star (pcs.map Pc.res)) rs rs'){x:Pc}(hx:x∈pcs):Sl w 1 x.val x.xs.length (x.xs.map (Value.int .u8)):=by
 obtain ⟨s,hs⟩:=h.starGet p (List.mem_map.2 ⟨x,hx,rfl⟩)
 exact hs.sl (show AI (own 5 1 x.ad x.xs.length x.c (x.xs.map (Value.int .u8))) (Pc.res x::s) s from .head)
def DF:List Int→List (List Int)→List Int→List Int→Option (List (List Int)×List Int)
 | [],o,m,p=>some (o++[p],m)
 | x::l,o,m,p=>if x=255 then (match l with
   | []=>none
   | y::l'=>if y=255 then none else if y=0 then DF l' o m (p++[255,0]) else DF l' (o++[p]) (m++[y]) []) else DF l o m (p++[x])
theorem Mg(xs:List Int)(i:Nat)(o:List (List Int))(m p:List Int)(h:i<xs.length)(hx:AF xs i≠255):DF (xs.drop i) o m p=DF (xs.drop (i+1)) o m (p++[AF xs i]):=by
 have e:xs.drop i=AF xs i::xs.drop (i+1):=by rw [List.drop_eq_getElem_cons h];simp [AF,List.getD,h]
 rw [e,DF.eq_def];dsimp only;rw [if_neg hx]
theorem Lj(xs:List Int)(i:Nat)(o:List (List Int))(m p:List Int)(h:i+1=xs.length)(hx:AF xs i=255):DF (xs.drop i) o m p=none:=by
 have e:xs.drop i=AF xs i::xs.drop (i+1):=by rw [List.drop_eq_getElem_cons (by omega)];simp [AF,List.getD,show i<xs.length by omega]
 rw [e,List.drop_of_length_le (by omega)];simp only [DF];rw [if_pos hx]
theorem Ll(xs:List Int)(i:Nat)(o:List (List Int))(m p:List Int)(h:i+1<xs.length)(hx:AF xs i=255):
 DF (xs.drop i) o m p=if AF xs (i+1)=255 then none else if AF xs (i+1)=0 then DF (xs.drop (i+2)) o m (p++[255,0]) else DF (xs.drop (i+2)) (o++[p]) (m++[AF xs (i+1)]) []:=by
 have e:xs.drop i=AF xs i::xs.drop (i+1):=by rw [List.drop_eq_getElem_cons (by omega)];simp [AF,List.getD,show i<xs.length by omega]
 have e2:xs.drop (i+1)=AF xs (i+1)::xs.drop (i+2):=by rw [List.drop_eq_getElem_cons h];simp [AF,List.getD,h]
 rw [e,e2];simp only [DF];rw [if_pos hx]
theorem Lk(xs:List Int)(i:Nat)(o:List (List Int))(m p:List Int)(h:xs.length≤i):DF (xs.drop i) o m p=some (o++[p],m):=by
 rw [List.drop_of_length_le h,DF]
theorem Bj(w0:World)(a:Option Addr)(n c:Nat)(xs:List Int)(hs:Sl w0 1 (.slice a n c) n (xs.map (Value.int .u8)))(hx:∀x∈xs,0≤x∧x<256)(hb:n≤1000000000):
 Calls Tryd.prog 8 #[.slice a n c] w0 fun e w=>(DF xs [] [] []=none→e= .returned (.tuple #[.slice none 0 0, .slice none 0 0, .int .i64 4])∧AX w0 w)∧
  (∀ps ms,DF xs [] [] []=some (ps,ms)→∃(pcs:List Pc) (ao am:Option Addr) (co cm lo lm:Nat),lo=ps.length∧lm=ms.length∧pcs.map (·.xs)=ps∧e= .returned (.tuple #[.slice ao lo co, .slice am lm cm, .int .i64 0])∧
    St w0 w [own 22 1 ao lo co (pcs.map Pc.val),own 3 1 am lm cm (ms.map (Value.int .i64)),star (pcs.map Pc.res)]):=by
 have hS:=St.start w0
 have hln:xs.length=n:=by have:=hs.1;simpa using this
 have hcell:∃b0 o0,∀i,i<n→a=some ⟨b0,o0,none⟩∧w0.cell? ⟨b0,o0+i,none⟩=some (.int .u8 (AF xs i)):=by
  obtain ⟨_,a1,c1,e1,_,_,hor⟩:=hs
  cases e1
  rcases hor with h0|⟨b0,o0,e2,hc⟩
  ·exact ⟨0,0,fun i hi=>by omega⟩
  refine ⟨b0,o0,fun i hi=>⟨e2,?_⟩⟩
  rw [hc i (by omega),List.getElem?_map,Be xs i (by omega)];rfl
 obtain ⟨b0,o0,hcell⟩:=hcell
 have hrng:∀i,i<n→0≤AF xs i∧AF xs i<256:=fun i hi=>hx _ (by simp [AF,List.getD,show i<xs.length by omega])
 have HC:=AD hcell
 have HR:=AD hrng
 have HT:Hid (∃T,DF xs [] [] []=T):=⟨_,rfl⟩
 obtain ⟨T,hT⟩:=HT.out
 rw [hT]
 clear hcell hrng HT hx hs
 go_enter Tryd.func8,Tryd.ntmps8
 repeat' (first
  | refine X8 ?_|refine AG ?_;go_step|fail)
 go_loopg [5,6,7,8] n (fun gk ov mv pv iv w=>∃(i lo lm lp:Nat) (pcs:List Pc) (m p:List Int) (ao am ap:Option Addr) (co cm cp:Nat),gk+i=n∧lo=pcs.length∧lm=m.length∧lp=p.length∧lo≤i∧lm≤i∧lp≤i∧ov= .slice ao lo co∧mv= .slice am lm cm∧pv= .slice ap lp cp∧iv= .int .i64 i∧
  DF (xs.drop i) (pcs.map (·.xs)) m p=T∧St w0 w [own 22 1 ao lo co (pcs.map Pc.val),own 3 1 am lm cm (m.map (Value.int .i64)),own 5 1 ap lp cp (p.map (Value.int .u8)),star (pcs.map Pc.res)])
 case atStart=>exact ⟨0,0,0,0,[],[],[],none,none,none,0,0,0,by omega,rfl,rfl,rfl,by omega,by omega,by omega,rfl,rfl,rfl,rfl,hT,(((hS.star0).nilk 5 1 .u8).nilk 3 1 .i64).nil 22 1⟩
 case round=>
  clear hS hT
  obtain ⟨i,lo,lm,lp,pcs,m,p,ao,am,ap,co,cm,cp,hi,hlo,hlm,hlp,hlo2,hlm2,hlp2,rfl,rfl,rfl,rfl,hT,hS⟩:=hrel
  by_cases hlt:i<n
  ·obtain ⟨rfl,hc0⟩:=HC.out i hlt
   by_cases hx:AF xs i=255
   ·by_cases hend:i+1=n
    ·rw [Lj xs i _ _ _ (by omega) hx] at hT
     have HT:=AD hT
     rw [hx] at hc0
     clear hT hx
     repeat' (first
      | refine X1 ?_|refine J6 11 ?_|refine X2 12 ?_|refine AG ?_;go_step|fail)
     repeat' (first
      | refine X1 ?_|refine Il 17 ?_|refine X7 19 ?_|refine K9 ?_|refine AG ?_;go_step|fail)
     repeat' (first
      | refine MJ 28 ?_|refine X0 ?_|refine AG ?_;go_step|fail)
     repeat' (first
      | go_big_skip|((first|(with_reducible refine It ?_)|(with_reducible refine OD ?_));(first|go_big_want|go_step);go_step)|((with_reducible refine Az _ (.pick _ _ _) ?_);(refine BD rfl AB ?_;go_step))|((refine AU 45 ?_);(refine Cq _ (V.eql rfl rfl) AB (fun hB=>?_) (fun hB=>?_)<;>(try exact Ar)<;>go_step))|((refine AU 44 ?_);(refine Av AB (V.len Tryd.underlying22 rfl) ?_;go_step))|(refine AG ?_;go_step)|fail)
     refine Ah (xs:=[_,_,_]) rfl (.cons (AE.tmp rfl) (.cons (AE.tmp rfl) (.cons (AE.tmp rfl) (.nil)))) (by simp) rfl ?_
     exact ⟨fun _=>⟨rfl,hS.1⟩,fun ps ms h=>by rw [←HT.out] at h;cases h⟩
    rw [Ll xs i _ _ _ (by omega) hx] at hT
    obtain ⟨_,hc1⟩:=HC.out (i+1) (by omega)
    have hr:=HR.out (i+1) (by omega)
    rw [hx] at hc0
    obtain ⟨y,hy⟩:∃y,AF xs (i+1)=y:=⟨_,rfl⟩
    rw [hy] at hT hc1 hr
    clear hx hy
    by_cases hy255:y=255
    ·rw [if_pos hy255] at hT
     have HT:=AD hT
     clear hT
     repeat' (first
      | refine X1 ?_|refine J6 11 ?_|refine X2 12 ?_|refine AG ?_;go_step|fail)
     repeat' (first
      | refine X1 ?_|refine Il 17 ?_|refine X7 19 ?_|refine K9 ?_|refine AG ?_;go_step|fail)
     repeat' (first
      | refine MJ 28 ?_|refine X0 ?_|refine AG ?_;go_step|fail)
     repeat' (first
      | refine X0 ?_|refine H0 ?_|refine JE 45 ?_ ?_<;>intro hB<;>(try exact Ar)<;>go_step|refine J6 44 ?_|refine Il 49 ?_|refine JF 51 ?_|refine K9 ?_|refine AG ?_;go_step|fail)
     refine Ah (xs:=[_,_,_]) rfl (.cons (AE.tmp rfl) (.cons (AE.tmp rfl) (.cons (AE.tmp rfl) (.nil)))) (by simp) rfl ?_
     exact ⟨fun _=>⟨rfl,hS.1⟩,fun ps ms h=>by rw [←HT.out] at h;cases h⟩
    rw [if_neg hy255] at hT
    by_cases hy0:y=0
    ·rw [if_pos hy0] at hT
     have HT:=AD hT
     clear hT
     repeat' (first
      | refine X1 ?_|refine J6 11 ?_|refine X2 12 ?_|refine AG ?_;go_step|fail)
     repeat' (first
      | refine X1 ?_|refine Il 17 ?_|refine X7 19 ?_|refine K9 ?_|refine AG ?_;go_step|fail)
     repeat' (first
      | refine MJ 28 ?_|refine X0 ?_|refine AG ?_;go_step|fail)
     repeat' (first
      | refine X0 ?_|refine H0 ?_|refine JE 45 ?_ ?_<;>intro hB<;>(try exact Ar)<;>go_step|refine J6 44 ?_|refine Il 49 ?_|refine JF 51 ?_|refine K9 ?_|refine AG ?_;go_step|fail)
     repeat' (first
      | refine X0 ?_|refine Il 56 ?_|refine JF 58 ?_|refine K9 ?_|refine Ms 60 ?_;clear hS;intro g60 w hS|refine Lv 61 ?_;clear hS;intro ad61 c61 w hS|refine AG ?_;go_step|fail)
     repeat' (first
      | (refine AU 14 ?_);(refine AP (.int _ (((i+2:Nat):Int))) (V.as (V.addI rfl rfl (by omega)) (by omega)) (by kernel_rfl) ?_;go_step)|refine X8 ?_|refine AG ?_;go_step|fail)
     go_roundg (gk-2)
     case measure=>omega
     case rel=>exact ⟨i+2,lo,lm,lp+2,pcs,m,p++[255,0],_,_,_,_,_,_,by omega,hlo,hlm,by simp;omega,by omega,by omega,by omega,rfl,rfl,rfl,by go_num,HT.out,hS.sub Ao⟩
    rw [if_neg hy0] at hT
    have HT:=AD hT
    clear hT
    repeat' (first
     | refine X1 ?_|refine J6 11 ?_|refine X2 12 ?_|refine AG ?_;go_step|fail)
    repeat' (first
     | refine X1 ?_|refine Il 17 ?_|refine X7 19 ?_|refine K9 ?_|refine AG ?_;go_step|fail)
    repeat' (first
     | refine MJ 28 ?_|refine X0 ?_|refine AG ?_;go_step|fail)
    repeat' (first
     | refine X0 ?_|refine H0 ?_|refine JE 45 ?_ ?_<;>intro hB<;>(try exact Ar)<;>go_step|refine J6 44 ?_|refine Il 49 ?_|refine JF 51 ?_|refine K9 ?_|refine AG ?_;go_step|fail)
    repeat' (first
     | refine X8 ?_|refine Il 56 ?_|refine JF 58 ?_|refine K9 ?_|refine AG ?_;go_step|fail)
    refine AZ [10,11] (fun w=>St w0 w []) AB ?_
    replace hS:=hS.drew
    focus
     refine Ai 0 ?_
     refine Ai 1 ?_
     refine Ai 4 ?_
     refine Ai 5 ?_
     refine Ai 6 ?_
     refine Dw 7 DG (V.indexSl Tryd.underlying22 JV rfl rfl BL (by omega) (Nat.mul_one _) CD) ?_;go_step
     apply I3 8 Cf AB AB AB Cv [9,10,11,12,13,14] AB (hS.sub Ao)
     case hfr=>intro w hS;((refine A3 ?_;apply Ds hS 5 _ rfl _ rfl (Ab rfl) _;(case hc=>with_reducible assumption);refine AC ?_;go_step));refine wpList_nil ?_;exact ⟨rfl,rfl⟩
     case hd=>rfl
     refine Dw 9 DG (V.convI (by rw [Tryd.underlying5];rfl) Tryd.underlying3 rfl (IntWalk.i64_in _ (by omega))) ?_;go_step
     refine H4 [2,10] AB (by simp) (.cons Cf AB ?_ (.cons Cf AB ?_ (.nil)))
     rotate_left 1
     focus
      refine Y4 ?_;clear hS;intro g39 w hS
      refine Cb 2 ?_
      refine Y5 ?_;clear hS;intro g31 w hS
      refine Cb 3 ?_
      (refine Ad (o:=⟨some 32,_,_,_,_,_⟩) hS _ _ 35 rfl 22 1 24 IB _ _ _ _ rfl AQ _ rfl _ _ (by (first|exact hS.slBlk AQ (by rfl) (by decide)|exact hS.sl AQ|with_reducible assumption|exact Sl.ext (by with_reducible assumption) hS.1|exact Sl.nil _ _|exact Sl.ext (by assumption) hS.1|assumption)) (by (first|exact BQ rfl|exact BE _ _|(intro u hu;cases hu))) (by unfold maxLen;omega) (by omega) ?_;clear hS;intro ad32 c32 w hS;(first|simp only [Bz] at hS|simp only [B3] at hS|simp only [B4] at hS|simp only [B5] at hS|simp only [B6] at hS|skip))
      refine ⟨fun _ _=>hS.sub Ao,?_⟩
      refine AK ?_
      go_step
      refine Cb 11 ?_
      (refine Ad (o:=⟨some 40,_,_,_,_,_⟩) hS _ _ 23 rfl 3 1 8 FR _ _ _ _ rfl AQ _ rfl _ _ (by (first|exact hS.slBlk AQ (by rfl) (by decide)|exact hS.sl AQ|with_reducible assumption|exact Sl.ext (by with_reducible assumption) hS.1|exact Sl.nil _ _|exact Sl.ext (by assumption) hS.1|assumption)) (by (first|exact BQ rfl|exact BE _ _|(intro u hu;cases hu))) (by unfold maxLen;omega) (by omega) ?_;clear hS;intro ad40 c40 w hS;(first|simp only [Bz] at hS|simp only [B3] at hS|simp only [B4] at hS|simp only [B5] at hS|simp only [B6] at hS|skip))
      refine ⟨fun h=>absurd (by decide) h,?_⟩
      refine AK ?_
      go_step
      refine Ai 12 ?_
      refine Ai 13 ?_
      refine Ai 14 ?_
      refine AO AB ?_ _
     rotate_right 1
     focus
      refine Y5 ?_;clear hS;intro g31 w hS
      refine H4 [3,10] AB (by simp) (.cons Cf AB ?_ (.cons Cf AB ?_ (.nil)))
      rotate_left 1
      focus
       refine Y4 ?_;clear hS;intro g39 w hS
       refine Cb 3 ?_
       (refine Ad (o:=⟨some 32,_,_,_,_,_⟩) hS _ _ 35 rfl 22 1 24 IB _ _ _ _ rfl AQ _ rfl _ _ (by (first|exact hS.slBlk AQ (by rfl) (by decide)|exact hS.sl AQ|with_reducible assumption|exact Sl.ext (by with_reducible assumption) hS.1|exact Sl.nil _ _|exact Sl.ext (by assumption) hS.1|assumption)) (by (first|exact BQ rfl|exact BE _ _|(intro u hu;cases hu))) (by unfold maxLen;omega) (by omega) ?_;clear hS;intro ad32 c32 w hS;(first|simp only [Bz] at hS|simp only [B3] at hS|simp only [B4] at hS|simp only [B5] at hS|simp only [B6] at hS|skip))
       refine ⟨fun _ _=>hS.sub Ao,?_⟩
       refine AK ?_
       go_step
       refine Cb 11 ?_
       (refine Ad (o:=⟨some 40,_,_,_,_,_⟩) hS _ _ 23 rfl 3 1 8 FR _ _ _ _ rfl AQ _ rfl _ _ (by (first|exact hS.slBlk AQ (by rfl) (by decide)|exact hS.sl AQ|with_reducible assumption|exact Sl.ext (by with_reducible assumption) hS.1|exact Sl.nil _ _|exact Sl.ext (by assumption) hS.1|assumption)) (by (first|exact BQ rfl|exact BE _ _|(intro u hu;cases hu))) (by unfold maxLen;omega) (by omega) ?_;clear hS;intro ad40 c40 w hS;(first|simp only [Bz] at hS|simp only [B3] at hS|simp only [B4] at hS|simp only [B5] at hS|simp only [B6] at hS|skip))
       refine ⟨fun h=>absurd (by decide) h,?_⟩
       refine AK ?_
       go_step
       refine Ai 12 ?_
       refine Ai 13 ?_
       refine Ai 14 ?_
       refine AO AB ?_ _
      rotate_right 1
      focus
       (refine Ad (o:=⟨some 32,_,_,_,_,_⟩) hS _ _ 35 rfl 22 1 24 IB _ _ _ _ rfl AQ _ rfl _ _ (by (first|exact hS.slBlk AQ (by rfl) (by decide)|exact hS.sl AQ|with_reducible assumption|exact Sl.ext (by with_reducible assumption) hS.1|exact Sl.nil _ _|exact Sl.ext (by assumption) hS.1|assumption)) (by (first|exact BQ rfl|exact BE _ _|(intro u hu;cases hu))) (by unfold maxLen;omega) (by omega) ?_;clear hS;intro ad32 c32 w hS;(first|simp only [Bz] at hS|simp only [B3] at hS|simp only [B4] at hS|simp only [B5] at hS|simp only [B6] at hS|skip))
       refine ⟨fun _ _=>hS.sub Ao,?_⟩
       refine AK ?_
       go_step
       refine Cb 10 ?_
       refine Y4 ?_;clear hS;intro g39 w hS
       refine Cb 11 ?_
       (refine Ad (o:=⟨some 40,_,_,_,_,_⟩) hS _ _ 23 rfl 3 1 8 FR _ _ _ _ rfl AQ _ rfl _ _ (by (first|exact hS.slBlk AQ (by rfl) (by decide)|exact hS.sl AQ|with_reducible assumption|exact Sl.ext (by with_reducible assumption) hS.1|exact Sl.nil _ _|exact Sl.ext (by assumption) hS.1|assumption)) (by (first|exact BQ rfl|exact BE _ _|(intro u hu;cases hu))) (by unfold maxLen;omega) (by omega) ?_;clear hS;intro ad40 c40 w hS;(first|simp only [Bz] at hS|simp only [B3] at hS|simp only [B4] at hS|simp only [B5] at hS|simp only [B6] at hS|skip))
       refine ⟨fun h=>absurd (by decide) h,?_⟩
       refine AK ?_
       go_step
       refine Ai 12 ?_
       refine Ai 13 ?_
       refine Ai 14 ?_
       refine AO AB ?_ _
    all_goals
     repeat' (first
      | (refine AU 14 ?_);(refine AP (.int _ (((i+2:Nat):Int))) (V.as (V.addI rfl rfl (by omega)) (by omega)) (by kernel_rfl) ?_;go_step)|refine X0 ?_|refine AG ?_;go_step|fail)
     subst hlp
     have h2:=(hS.sub (xs:=[star (pcs.map Pc.res),own 5 1 ap p.length cp (p.map (Value.int .u8)),own 22 1 ad32 (lo+1) c32 (pcs.map Pc.val++[.slice ap p.length cp]),own 3 1 ad40 (lm+1) c40 ((m++[y]).map (Value.int .i64))]) Ao).starPut AI.head
     go_roundg (gk-2)
     case measure=>omega
     case rel=>
      refine ⟨i+2,lo+1,lm+1,0,pcs++[⟨ap,cp,p⟩],m++[y],[],_,_,_,_,_,_,by omega,by simp;omega,by simp;omega,rfl,by omega,by omega,by omega,rfl,rfl,rfl,by go_num,by rw [List.map_append];exact HT.out,?_⟩
      rw [show (pcs++[(⟨ap,cp,p⟩:Pc)]).map Pc.val=pcs.map Pc.val++[.slice ap p.length cp] by rw [List.map_append];rfl,show (pcs++[(⟨ap,cp,p⟩:Pc)]).map Pc.res=pcs.map Pc.res++[own 5 1 ap p.length cp (p.map (Value.int .u8))] by rw [List.map_append];rfl]
      exact (h2.nilk 5 1 .u8).sub Ao
   rw [Mg xs i _ _ _ (by omega) hx] at hT
   have HT:=AD hT
   obtain ⟨x,hxx⟩:∃x,AF xs i=x:=⟨_,rfl⟩
   rw [hxx] at HT hc0 hx
   clear hT hxx
   repeat' (first
    | refine X1 ?_|refine J6 11 ?_|refine X2 12 ?_|refine AG ?_;go_step|fail)
   repeat' (first
    | refine X0 ?_|refine Il 17 ?_|refine X7 19 ?_|refine Il 23 ?_|refine K9 ?_|refine Mr 25 ?_;clear hS;intro g25 w hS|refine Lv 26 ?_;clear hS;intro ad26 c26 w hS|refine AG ?_;go_step|fail)
   repeat' (first
    | refine MJ 14 ?_|refine X8 ?_|refine AG ?_;go_step|fail)
   go_roundg (gk-1)
   case measure=>omega
   case rel=>exact ⟨i+1,lo,lm,lp+1,pcs,m,p++[x],_,_,_,_,_,_,by omega,hlo,hlm,by simp;omega,by omega,by omega,by omega,rfl,rfl,rfl,by go_num,HT.out,hS.sub Ao⟩
  rw [Lk xs i _ _ _ (by omega)] at hT
  have HT:=AD hT
  clear hT
  repeat' (first
   | refine X1 ?_|refine J6 11 ?_|refine X2 12 ?_|refine AG ?_;go_step|fail)
  repeat' (first
   | refine X0 ?_|(refine AU 64 ?_);(refine A3 ?_;apply AM (o:=⟨some 64,_,_,_,_,_⟩) hS 35 1 _ rfl 22 1 24 IB _ _;(case hvs=>(repeat (first|exact AN.nil|(apply AN.agg;(rfl);(rfl))|(apply AN.one;exact Bx;(rfl);(rfl)))));(case hn=>rfl);(case hn0=>decide);(case hns=>decide);clear hS;intro g64 w hS;refine AC ?_;go_step)|refine NJ 65 ?_;clear hS;intro ad65 c65 w hS|refine AG ?_;go_step|fail)
  refine Ah (xs:=[_,_,_]) rfl (.cons (AE.tmp rfl) (.cons (AE.tmp rfl) (.cons (AE.tmp rfl) (.nil)))) (by simp) rfl ?_
  subst hlp
  refine ⟨fun h=>(by rw [←HT.out] at h;cases h),fun ps ms h=>?_⟩
  rw [←HT.out] at h
  cases h
  have h2:=(hS.sub (xs:=[star (pcs.map Pc.res),own 5 1 ap p.length cp (p.map (Value.int .u8)),own 22 1 ad65 (lo+1) c65 (pcs.map Pc.val++[.slice ap p.length cp]),own 3 1 am lm cm (m.map (Value.int .i64))]) Ao).starPut AI.head
  refine ⟨pcs++[⟨ap,cp,p⟩],_,_,_,_,_,_,by simp;omega,hlm,by simp,rfl,?_⟩
  rw [show (pcs++[(⟨ap,cp,p⟩:Pc)]).map Pc.val=pcs.map Pc.val++[.slice ap p.length cp] by rw [List.map_append];rfl,show (pcs++[(⟨ap,cp,p⟩:Pc)]).map Pc.res=pcs.map Pc.res++[own 5 1 ap p.length cp (p.map (Value.int .u8))] by rw [List.map_append];rfl]
  exact h2.sub Ao
theorem GV:ET []=[]:=rfl
theorem CA(x:Int)(l:List Int):ET (x::l)=(if x=255 then [255,0] else [x])++ET l:=by simp [ET,EO]
theorem GU:∀(a b:List Int),ET a=ET b→a=b
 | [],[],_=>rfl
 | [],y::b,h=>by rw [GV,CA] at h;split at h<;>simp at h
 | x::a,[],h=>by rw [GV,CA] at h;split at h<;>simp at h
 | x::a,y::b,h=>by
   rw [CA,CA] at h
   by_cases hx:x=255
   ·by_cases hy:y=255
    ·rw [if_pos hx,if_pos hy] at h
     simp only [List.cons_append,List.nil_append,List.cons.injEq,true_and] at h
     rw [hx,hy,GU a b h]
    rw [if_pos hx,if_neg hy] at h
    simp only [List.cons_append,List.nil_append,List.cons.injEq] at h
    exact absurd h.1.symm hy
   by_cases hy:y=255
   ·rw [if_neg hx,if_pos hy] at h
    simp only [List.cons_append,List.nil_append,List.cons.injEq] at h
    exact absurd h.1 hx
   rw [if_neg hx,if_neg hy] at h
   simp only [List.cons_append,List.nil_append,List.cons.injEq] at h
   rw [h.1,GU a b h.2]
theorem ES:∀(c:List Int)(o:List (List Int))(m p:List Int),DF (ET c) o m p=some (o++[p++ET c],m)
 | [],o,m,p=>by rw [GV,DF,List.append_nil]
 | x::c,o,m,p=>by
   rw [CA]
   by_cases h:x=255
   ·subst h
    rw [if_pos rfl,DF.eq_def]
    simp only [List.cons_append,List.nil_append,if_true]
    rw [if_neg (by decide),ES c]
    simp
   rw [if_neg h,DF.eq_def]
   simp only [List.cons_append,List.nil_append]
   rw [if_neg h,ES c]
   simp
theorem CO:∀(k:Nat)(b:List Int)(o:List (List Int))(m p:List Int)(ps:List (List Int))(ms:List Int),b.length≤k→DF b o m p=some (ps,ms)→
 ∃(q:List Int) (r:List (Int×List Int)),ps=o++((p++q)::r.map (·.2))∧ms=m++r.map (·.1)∧b=q++r.flatMap (fun y=>255::y.1::y.2)∧(∃c,q=ET c)∧∀y∈r,y.1≠0∧y.1≠255∧∃c,y.2=ET c
 | k,[],o,m,p,ps,ms,hk,h=>by
   rw [DF] at h
   cases h
   exact ⟨[],[],by simp,by simp,by simp,⟨[],rfl⟩,fun y hy=>by cases hy⟩
 | 0,x::b,o,m,p,ps,ms,hk,h=>by simp at hk
 | k+1,x::b,o,m,p,ps,ms,hk,h=>by
   rw [DF.eq_def] at h
   dsimp only at h
   by_cases hx:x=255
   ·rw [if_pos hx] at h
    cases b with
    | nil=>cases h
    | cons y b=>
      dsimp only at h
      by_cases h1:y=255
      ·rw [if_pos h1] at h;cases h
      rw [if_neg h1] at h
      by_cases h2:y=0
      ·rw [if_pos h2] at h
       obtain ⟨q,r,e1,e2,e3,⟨c,e4⟩,e5⟩:=CO k b _ _ _ _ _ (by simp at hk;omega) h
       refine ⟨255::0::q,r,by rw [e1];simp,e2,by rw [hx,h2,e3];simp,⟨255::c,by rw [CA,if_pos rfl,e4];rfl⟩,e5⟩
      rw [if_neg h2] at h
      obtain ⟨q,r,e1,e2,e3,e4,e5⟩:=CO k b _ _ _ _ _ (by simp at hk;omega) h
      refine ⟨[],(y,q)::r,by rw [e1];simp,by rw [e2];simp,by rw [hx,e3];simp,⟨[],rfl⟩,fun z hz=>?_⟩
      rcases List.mem_cons.1 hz with rfl|hz
      ·exact ⟨h2,h1,e4⟩
      exact e5 z hz
   rw [if_neg hx] at h
   obtain ⟨q,r,e1,e2,e3,⟨c,e4⟩,e5⟩:=CO k b _ _ _ _ _ (by simp at hk;omega) h
   exact ⟨x::q,r,by rw [e1];simp,e2,by rw [e3];simp,⟨x::c,by rw [CA,if_neg hx,e4];rfl⟩,e5⟩
theorem Jm{b:List Int}{ps:List (List Int)}(h:DF b [] [] []=some (ps,[])):∃c,b=ET c:=by
 obtain ⟨q,r,e1,e2,e3,⟨c,e4⟩,e5⟩:=CO b.length b _ _ _ _ _ (Nat.le_refl _) h
 have hr:r=[]:=by
  have:=congrArg List.length e2
  simp at this
  exact List.eq_nil_of_length_eq_zero (by omega)
 subst hr
 exact ⟨c,by rw [e3,e4];simp⟩
theorem Im{x:Int}(hx:0≤x∧x<256)(h:x≠255):((255:UInt8)==UInt8.ofNat x.toNat)=false:=by
 rw [beq_eq_false_iff_ne]
 intro e
 have:=congrArg UInt8.toNat e
 simp at this
 omega
theorem MU:∀(p T:List Int),(∀x∈p,0≤x∧x<256)→(255:Int)∉p→Lib.index (Lib.bytesOf (p++255::0::T)) (Lib.bytesOf [255,0])=(p.length:Nat)
 | [],T,_,_=>by
   simp only [List.nil_append,Lib.bytesOf,List.map_cons,List.map_nil]
   unfold Lib.index
   rw [if_pos (by simp [List.isPrefixOf])]
   rfl
 | x::p,T,h,hn=>by
   have ih:=MU p T (fun y hy=>h y (by simp [hy])) (fun e=>hn (by simp [e]))
   have hx:x≠255:=fun e=>hn (by simp [e])
   have hb:=Im (h x (by simp)) hx
   simp only [List.cons_append,Lib.bytesOf,List.map_cons,List.map_nil] at ih⊢
   unfold Lib.index
   rw [if_neg,ih,if_neg]
   ·simp
   ·simp
   simp only [List.isPrefixOf]
   have:(UInt8.ofNat (Int.toNat 255)==UInt8.ofNat x.toNat)=false:=hb
   rw [this];simp
theorem Iq:∀(p:List Int),(∀x∈p,0≤x∧x<256)→(255:Int)∉p→Lib.index (Lib.bytesOf p) (Lib.bytesOf [255,0])= -1
 | [],_,_=>rfl
 | x::p,h,hn=>by
   have ih:=Iq p (fun y hy=>h y (by simp [hy])) (fun e=>hn (by simp [e]))
   have hx:x≠255:=fun e=>hn (by simp [e])
   have hb:=Im (h x (by simp)) hx
   simp only [Lib.bytesOf,List.map_cons,List.map_nil] at ih⊢
   unfold Lib.index
   rw [if_neg,ih]
   ·rfl
   simp only [List.isPrefixOf]
   have:(UInt8.ofNat (Int.toNat 255)==UInt8.ofNat x.toNat)=false:=hb
   rw [this];simp
theorem NV:∀(ps:List (List Int))(last:List Int)(f:Nat),(∀p∈ps,(∀x∈p,0≤x∧x<256)∧(255:Int)∉p)→(∀x∈last,0≤x∧x<256)→(255:Int)∉last→ps.length<f→
 Lib.countFrom (Lib.bytesOf [255,0]) f (Lib.bytesOf (ps.flatMap (· ++[255,0])++last))=ps.length
 | _,_,0,_,_,_,hf=>by omega
 | [],last,f+1,_,h1,h2,_=>by
   simp only [List.flatMap_nil,List.nil_append]
   rw [Lib.countFrom,Iq last h1 h2];rfl
 | p::ps,last,f+1,h,h1,h2,hf=>by
   obtain ⟨k1,k2⟩:=h p (by simp)
   have e:(p::ps).flatMap (· ++[255,0])++last=p++255::0::(ps.flatMap (· ++[255,0])++last):=by simp
   have e2:(Lib.bytesOf (p++255::0::(ps.flatMap (· ++[255,0])++last))).drop (((p.length:Nat):Int).toNat+(Lib.bytesOf [255,0]).length)=Lib.bytesOf (ps.flatMap (· ++[255,0])++last):=by
    have e0:p.length+2=(Lib.bytesOf (p++[255,0])).length:=by simp [Lib.bytesOf]
    have e3:p++255::0::(ps.flatMap (· ++[255,0])++last)=(p++[255,0])++(ps.flatMap (· ++[255,0])++last):=by simp
    have e4:∀a b:List Int,Lib.bytesOf (a++b)=Lib.bytesOf a++Lib.bytesOf b:=fun a b=>by simp [Lib.bytesOf]
    rw [Int.toNat_natCast,show (Lib.bytesOf [255,0]).length=2 from rfl,e0,e3,e4 (p++[255,0]),List.drop_left' rfl]
   rw [e,Lib.countFrom,MU p _ k1 k2,e2,if_neg (by simp),NV ps last f (fun q hq=>h q (by simp [hq])) h1 h2 (by simp at hf;omega),List.length_cons]
   omega
theorem Li(b:Int):∀(l:List Int),(∀x∈l,0≤x∧x<256)→(∀p∈(DE b l).1,∀x∈p,0≤x∧x<256)∧(∀x∈(DE b l).2,0≤x∧x<256)∧b∉(DE b l).2:=by
 intro l h
 obtain ⟨h1,_,h3,h4⟩:=Dl b [] l
 have hm:∀p∈(DE b l).1,∀x∈p,x∈l:=fun p hp x hx=>by
  rw [←h1];exact List.mem_append_left _ (List.mem_flatMap.2 ⟨p,hp,List.mem_append_left _ hx⟩)
 refine ⟨fun p hp x hx=>h x (hm p hp x hx),fun x hx=>h x (by rw [←h1];exact List.mem_append_right _ hx),fun hb=>?_⟩
 have hc:=congrArg (List.count b) h1
 rw [List.count_append] at hc
 have e:∀ps:List (List Int),(∀p∈ps,b∉p)→(ps.flatMap (· ++[b])).count b=ps.length:=by
  intro ps
  induction ps with
  | nil=>intro _;rfl
  | cons p ps ih=>
    intro hp
    rw [List.flatMap_cons,List.count_append,List.count_append,ih fun q hq=>hp q (by simp [hq]),List.count_eq_zero.2 (hp p (by simp)),List.length_cons]
    simp;omega
 rw [e _ h4,h3] at hc
 have:=List.count_pos_iff.2 hb
 omega
theorem Fg{w w':World}(h:∃q,w'=w.drewN q):AX w w':=by obtain ⟨q,rfl⟩:=h;exact (AX.refl w).drewN
theorem Gk{w:World}{a:Addr}{n c k:Nat}{xs:List Int}(hv:Sl w 1 (.slice (some a) n c) n (xs.map (Value.int .u8))):n≤c∧c≤9223372036854775807:=by
 obtain ⟨_,_,_,e,h1,h2,_⟩:=hv
 cases e
 unfold maxLen at h2
 exact ⟨h1,h2⟩
theorem Hr(w0:World)(a:Option Addr)(g1 g2:Nat)(n c:Nat)(xs cc:List Int)(hs:Sl w0 1 (.slice a n c) n (xs.map (Value.int .u8)))(hnil:a=none→c=0)(he:xs=ET cc)
 (ho:Sl w0 1 (.slice (some ⟨g1,0,none⟩) 2 2) 2 (([255,0]:List Int).map (Value.int .u8))) (hw:Sl w0 1 (.slice (some ⟨g2,0,none⟩) 1 1) 1 (([255]:List Int).map (Value.int .u8)))
 (hx:∀x∈xs,0≤x∧x<256) (hb1:n≤1000000000) (hml:∃m,w0.cell? ⟨0,0,none⟩=some (.int .i64 m)):
 Calls Tryd.prog 17 #[.slice a n c, .slice (some ⟨g1,0,none⟩) 2 2, .slice (some ⟨g2,0,none⟩) 1 1] w0 fun e w=>∃(ao:Option Addr) (c':Nat),e= .returned (.slice ao cc.length c')∧St w0 w [own 5 1 ao cc.length c' (cc.map (Value.int .u8))]:=by
 obtain ⟨ml,hml⟩:=hml
 have hxc:∀x∈cc,0≤x∧x<256:=fun x hxm=>by
  by_cases h:x=255
  ·omega
  refine hx x ?_
  rw [he,ET,EO,List.mem_flatMap]
  exact ⟨x,hxm,by rw [if_neg h];simp⟩
 obtain ⟨h1,h2,h3,h4⟩:=Dl 255 [255,0] cc
 obtain ⟨r1,r2,r3⟩:=Li 255 cc hxc
 obtain ⟨ps,hps⟩:∃ps,(DE 255 cc).1=ps:=⟨_,rfl⟩
 obtain ⟨last,hlast⟩:∃l,(DE 255 cc).2=l:=⟨_,rfl⟩
 rw [hps,hlast] at h1 h2
 rw [hps] at h3 h4 r1
 rw [hlast] at r2 r3
 have h2':ps.flatMap (· ++[255,0])++last=xs:=by rw [he];exact h2
 have h5:=h2'
 rw [←I0] at h1 h2'
 have hln:xs.length=n:=by have:=hs.1;simpa using this
 have hadd:∀(g i:Nat),((⟨g,0,none⟩:Addr).add i)=⟨g,0+i,none⟩:=fun g i=>Addr.add_mid ..
 have hmem:∀k (h:k<ps.length),∃T,xs.drop (pre [255,0] ps k).length=ps[k]++255::0::T:=fun k h=>by
  obtain ⟨T,hT⟩:=D6 [255,0] ps k ps.length rfl h
  refine ⟨T++last,?_⟩
  rw [←h2',hT,List.append_assoc,List.drop_left' rfl]
  simp
 have hpl:ps.length≤n:=by
  have hq:∀qs:List (List Int),qs.length≤(qs.flatMap (· ++[255,0])).length:=fun qs=>by
   induction qs with
   | nil=>exact Nat.le_refl _
   | cons q qs ih=>rw [List.flatMap_cons,List.length_append,List.length_append,List.length_cons,List.length_cons];omega
  have:=hq ps
  have e:=congrArg List.length h5
  rw [List.length_append] at e
  omega
 have HC:Aw (∀w,AX w0 w→Calls Tryd.prog 41 #[.slice a n c, .slice (some ⟨g1,0,none⟩) 2 2] w fun e w'=>e= .returned (.int .i64 (ps.length:Nat))∧AX w w'):=⟨fun w hE=>by
  cases a with
  | none=>
    have hc0:=hnil rfl
    subst hc0
    have hn0:n=0:=by obtain ⟨_,_,_,h1,h2,_⟩:=hs;cases h1;omega
    subst hn0
    have:ps.length=0:=by omega
    rw [this]
    exact (Tryd.bytes_Count_nil (some ⟨g1,0,none⟩) 2 2 w (by decide) (by decide)).mono fun e w' ⟨e1,e2⟩=>⟨e1,e2▸ AX.refl _⟩
  | some a=>
    obtain ⟨c1,c2⟩:=Gk (k:=0) (hs.ext hE)
    refine (Tryd.bytes_Count_at a ⟨g1,0,none⟩ n c 2 2 xs [255,0] ml w hln rfl hx (by intro y hy;simp at hy;rcases hy with rfl|rfl<;>omega) (Ct (hs.ext hE)) (Ct (ho.ext hE)) c1 (by omega) (by decide) (by decide) (hE.cell hml)).mono fun e w' ⟨e1,e2⟩=>⟨?_,Fg e2⟩
    rw [e1]
    have:Lib.count (Lib.bytesOf xs) (Lib.bytesOf [255,0])=ps.length:=by
     rw [←h5,Lib.count]
     refine NV ps last _ (fun p hp=>⟨r1 p hp,h4 p hp⟩) r2 r3 ?_
     rw [h5];simp [Lib.bytesOf];omega
    rw [this]⟩
 have HI:Aw (∀k (h:k<ps.length) w,AX w0 w→Calls Tryd.prog 42 #[.slice (cutAt a c (pre [255,0] ps k).length 1) (n-(pre [255,0] ps k).length) (c-(pre [255,0] ps k).length), .slice (some ⟨g1,0,none⟩) 2 2] w fun e w'=>e= .returned (.int .i64 (ps[k].length:Nat))∧AX w w'):=⟨fun k h w hE=>by
  obtain ⟨T,hT⟩:=hmem k h
  have hle:(pre [255,0] ps k).length≤n:=by
   have:=GO [255,0] ps k ps.length (by omega)
   have h6:=congrArg List.length h2'
   rw [List.length_append] at h6
   omega
  have hsl:=(hs.ext hE).cutAt (pre [255,0] ps k).length n hle (Nat.le_refl _)
  have h6:((xs.map (Value.int .u8)).drop ((pre [255,0] ps k).length*1)).take ((n-(pre [255,0] ps k).length)*1)=(ps[k]++255::0::T).map (Value.int .u8):=by
   rw [Nat.mul_one,Nat.mul_one,←List.map_drop,←List.map_take,List.take_of_length_le (by rw [List.length_drop];omega),hT]
  rw [h6] at hsl
  have hlen:=hsl.1
  have hrng:∀x∈ps[k]++255::0::T,0≤x∧x<256:=fun x hxm=>hx x (by rw [←hT] at hxm;exact List.mem_of_mem_drop hxm)
  cases hca:cutAt a c (pre [255,0] ps k).length 1 with
  | none=>
    rw [hca] at hsl
    obtain ⟨_,_,_,k1,k2,k3,k4⟩:=hsl
    cases k1
    rcases k4 with k4|⟨_,_,k4,_⟩
    ·simp at hlen;omega
    cases k4
  | some a1=>
    rw [hca] at hsl
    obtain ⟨c1,c2⟩:=Gk (k:=0) hsl
    refine (Tryd.bytes_Index_at a1 ⟨g1,0,none⟩ _ _ 2 2 (ps[k]++255::0::T) [255,0] ml w (by simpa using hlen) rfl hrng (by intro y hy;simp at hy;rcases hy with rfl|rfl<;>omega) (Ct hsl) (Ct (ho.ext hE)) c1 (by omega) (by decide) (hE.cell hml)).mono fun e w' ⟨e1,e2⟩=>⟨?_,Fg e2⟩
    rw [e1,MU ps[k] T (fun x hxm=>r1 _ (List.getElem_mem h) x hxm) (h4 _ (List.getElem_mem h))]⟩
 have HRp:=EJ w0 a (some ⟨g1,0,none⟩) (some ⟨g2,0,none⟩) n c 2 2 1 1 ps.length ps last [255,0] [255] rfl (h2'.symm▸ hs) ho hw (by decide) hb1 (by decide) (by decide) HC HI
 rw [h1] at HRp
 have HRv:Aw _:=⟨HRp⟩
 have hS:=St.start w0
 clear HC HI HRp hmem h1 h2 h2' h3 h4 h5 hps hlast r1 r2 r3 hx hxc he hpl
 go_enter Tryd.func17,Tryd.ntmps17
 repeat' (first
  | (refine Am 31 ?_);refine An AB Tryd.call31 (HRv.out) ?_;rintro e w ⟨ao,c',rfl,hS2⟩;replace hS:=hS2;clear hS2;refine As ?_;go_step|refine X0 ?_|refine AG ?_;go_step|fail)
 go_ret
 exact ⟨ao,c',rfl,hS⟩
theorem Jg(w0:World)(a:Option Addr)(n c:Nat)(xs:List Int)(hs:Sl w0 1 (.slice a n c) n (xs.map (Value.int .u8)))(hnil:a=none→c=0)(hx:∀x∈xs,0≤x∧x<256)(hb1:n≤1000000000)(hml:∃m,w0.cell? ⟨0,0,none⟩=some (.int .i64 m)):
 Calls Tryd.prog 9 #[.slice a n c] w0 fun e w=>(∀cc,xs=ET cc→∃(ao:Option Addr) (c':Nat),e= .returned (.tuple #[.slice ao cc.length c', .int .i64 0])∧St w0 w [own 5 1 ao cc.length c' (cc.map (Value.int .u8))])∧
  ((∀cc,xs≠ET cc)→e= .returned (.tuple #[.slice none 0 0, .int .i64 4])∧AX w0 w):=by
 have hS:=St.start w0
 have HSP:=AD (Bj w0 a n c xs hs hx hb1)
 obtain ⟨T,hT⟩:∃T,DF xs [] [] []=T:=⟨_,rfl⟩
 rw [hT] at HSP
 have HX:Aw (∀x∈xs,0≤x∧x<256):=⟨hx⟩
 have HML:Aw _:=⟨hml⟩
 clear hx hml
 cases T with
 | none=>
   have hno:∀cc,xs≠ET cc:=fun cc e=>by rw [e,ES] at hT;cases hT
   have HNO:Aw _:=⟨hno⟩
   clear hno hT
   go_enter Tryd.func9,Tryd.ntmps9
   repeat' (first
    | (refine Am 8 ?_);refine An AB Tryd.call8 (HSP.out) ?_;rintro e w ⟨hR1,-⟩;obtain ⟨rfl,hE⟩:=hR1 rfl;clear hR1;replace hS:=hS.ext hE;clear hE;refine As ?_;go_step|go_skip|refine X0 ?_|refine H0 ?_|refine JE 14 ?_ ?_<;>intro hB<;>(try exact Ar)<;>go_step|refine X4 10 ?_|refine X4 11 ?_|refine X4 12 ?_|refine AG ?_;go_step|fail)
   all_goals
    repeat' (first
     | refine X0 ?_|refine X7 21 ?_|refine AG ?_;go_step|fail)
   all_goals
    refine Ah (xs:=[_,_]) rfl (.cons (AE.tmp rfl) (.cons (AE.tmp rfl) (.nil))) (by simp) rfl ?_
    exact ⟨fun cc e=>absurd e (HNO.out cc),fun _=>⟨rfl,hS.1⟩⟩
 | some T=>
   obtain ⟨ps,ms⟩:=T
   by_cases hm:ms=[]
   ·subst hm
    obtain ⟨cc,he⟩:=Jm hT
    have HE:=AD he
    clear hT he
    go_enter Tryd.func9,Tryd.ntmps9
    repeat' (first
     | (refine Am 8 ?_);refine An AB Tryd.call8 (HSP.out) ?_;rintro e w ⟨-,hR1⟩;obtain ⟨pcs,ao,am,co,cm,lo,lm,hlo,hlm,-,rfl,hS2⟩:=hR1 ps [] rfl;clear hR1;rw [List.length_nil] at hlm;subst hlm;replace hS:=hS.call hS2;clear hS2;simp only [List.cons_append,List.nil_append] at hS;refine As ?_;go_step|refine X0 ?_|refine X5 ?_|refine JE 14 ?_ ?_<;>intro hB<;>(try exact Ar)<;>go_step|refine X4 10 ?_|refine X4 11 ?_|refine X4 12 ?_|refine JH 17 ?_|refine Gf 18 ?_|refine AG ?_;go_step|fail)
    all_goals
     repeat' (first
      | refine X1 ?_|refine X7 21 ?_|refine AG ?_;go_step|fail)
    all_goals
     repeat' (first
      | (refine Am 17 ?_);refine An AB Tryd.call17 (Hr _ a _ _ n c xs cc (hs.ext hS.1) hnil HE.out (hS.slBlk (n:=2) (cs:=[.int .u8 255, .int .u8 0]) AQ (by rfl) (by decide)) (hS.slBlk (n:=1) (cs:=[.int .u8 255]) AQ (by rfl) (by decide)) HX.out hb1 (HML.out.imp fun m h=>hS.1.cell h)) ?_;rintro e w ⟨ao,c',rfl,hS2⟩;replace hS:=hS.call1 hS2;clear hS2;refine As ?_;go_step|refine X8 ?_|refine Ms 24 ?_;clear hS;intro g24 w hS|refine Mr 25 ?_;clear hS;intro g25 w hS|refine AG ?_;go_step|fail)
    all_goals
     refine Ah (xs:=[_,_]) rfl (.cons (AE.tmp rfl) (.cons (AE.tmp rfl) (.nil))) (by simp) rfl ?_
     refine ⟨fun cc2 e=>?_,fun h=>absurd HE.out (h cc)⟩
     obtain rfl:=GU _ _ (HE.out.symm.trans e)
     exact ⟨_,_,rfl,hS.sub Ao⟩
   have hno:∀cc,xs≠ET cc:=fun cc e=>by rw [e,ES] at hT;cases hT;exact hm rfl
   have HNO:Aw _:=⟨hno⟩
   have hml2:0<ms.length:=List.length_pos_iff.2 hm
   clear hno hT hm
   go_enter Tryd.func9,Tryd.ntmps9
   repeat' (first
    | (refine Am 8 ?_);refine An AB Tryd.call8 (HSP.out) ?_;rintro e w ⟨-,hR1⟩;obtain ⟨pcs,ao,am,co,cm,lo,lm,hlo,hlm,-,rfl,hS2⟩:=hR1 ps ms rfl;clear hR1;replace hS:=hS.call hS2;clear hS2;simp only [List.cons_append,List.nil_append] at hS;refine As ?_;go_step|refine X0 ?_|refine X5 ?_|refine JE 14 ?_ ?_<;>intro hB<;>(try exact Ar)<;>go_step|refine X4 10 ?_|refine X4 11 ?_|refine X4 12 ?_|refine JH 17 ?_|refine Gf 18 ?_|refine AG ?_;go_step|fail)
   all_goals
    repeat' (first
     | refine X0 ?_|refine X7 21 ?_|refine AG ?_;go_step|fail)
   all_goals
    refine Ah (xs:=[_,_]) rfl (.cons (AE.tmp rfl) (.cons (AE.tmp rfl) (.nil))) (by simp) rfl ?_
    exact ⟨fun cc e=>absurd e (HNO.out cc),fun _=>⟨rfl,hS.1⟩⟩
end Go.Proofs.YtkcbhcajfcfmmaaDoor
