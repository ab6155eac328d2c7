/- The law OwnMemory: its walk, and the statement. -/
import Derived.Test.YtkcbhcajfcfmmaaDoorBaseOZ2
import Derived.Test.YtkcbhcajfcfmmaaDoorBaseOZ9
import Derived.Test.YtkcbhcajfcfmmaaDoorBaseOZ10
import Derived.Test.YtkcbhcajfcfmmaaDoorRows
import Derived.JoinedCond
import Derived.Test.YtkcbhcajfcfmmaaDoorCards
import Derived.Test.YtkcbhcajfcfmmaaDoorTie
import Derived.Deep.DeepHandedRow
import Derived.Lay
import Derived.SevenTiedAt
namespace Go.Proofs.YtkcbhcajfcfmmaaDoor
attribute [local irreducible] Region.wanted
open Go.ChangeShapes Go.WideShapes Go.ChangeAt Go.RowKit Go.Deep
set_option linter.unusedVariables false
set_option maxRecDepth 100000
set_option maxHeartbeats 8000000
theorem Kj{H:Type}{enc:TypeId×Value→H}{W:World}{v:Value}{d:DataW H}{p:List MemPlace}{base:Nat}(ho:Value.okWide Tryd.prog W .any base 32 v)(h:DataW.Trod enc Tryd.prog W 0 (fun _=>true) true 32 v d p):
 ∃(f:Aj) (a1 a2 ad:Option Addr) (n1 k1 n2 k2 nd kd:Nat),v=fv f (.slice a1 n1 k1) (.slice a2 n2 k2) (.slice ad nd kd)∧FM W f a1 a2 ad n1 k1 n2 k2 nd kd∧nd≤Rows.uptoBulk d:=by
 obtain ⟨cs,rfl⟩:=MW (by rw [Tryd.underlying32]) ho
 obtain ⟨fuel,h⟩:=h
 obtain ⟨f,a1,a2,ad,n1,k1,n2,k2,nd,kd,h1,hI⟩:=IG h
 obtain ⟨xs,m,_,hx,hl,hxl,hf⟩:=DataW.trod_struct Tryd.underlying32 h
 have hx7:xs.length=7:=hxl
 have f6:=hf 6 {name:= "Data",type:=22,offset:=102,embedded:=false,tag:= "",pkgPath:= "",byteOffset:=848} rfl
 dsimp only at f6
 rw [List.getElem?_eq_getElem (by omega),show Tryd.prog.cellsOf 22=1 by kernel_rfl,h1] at f6
 have hc:((AA (CV f (.slice a1 n1 k1) (.slice a2 n2 k2) (.slice ad nd kd))).drop 102).take 1=[.slice ad nd kd]:=by
  have e:AA (CV f (.slice a1 n1 k1) (.slice a2 n2 k2) (.slice ad nd kd))=([.int .i64 f.wide, .int .i64 f.high, .int .i64 f.parts]++f.quant.map (Value.int .i64)++f.c1.map (Value.int .i64)++[.slice a1 n1 k1]++f.c2.map (Value.int .i64)++[.slice a2 n2 k2, .int .i64 f.every])++[.slice ad nd kd]:=by simp [AA,CV,AJ.cells]
  rw [e,List.drop_left' (by simp [hI.quant.out,hI.t1.len.out,hI.t2.len.out])]
  rfl
 rw [hc] at f6
 have e:d= .agg (xs.map (·.1)):=(Prod.mk.inj hx).1
 have hT:DataW.Trod enc Tryd.prog W 0 (fun _=>true) true 22 (.slice ad nd kd) (xs[6]'(by omega)).1 (xs[6]'(by omega)).2:=⟨m,f6⟩
 have h2:=DS Tryd.underlying22 hT
 have h3:Rows.uptoBulk (xs[6]'(by omega)).1≤Rows.uptoBulkAll (xs.map (·.1)):=Fb (List.mem_map.2 ⟨xs[6]'(by omega),List.getElem_mem _,rfl⟩)
 refine ⟨f,a1,a2,ad,n1,k1,n2,k2,nd,kd,?_,⟨hI.quant,hI.t1.len,hI.t2.len,hI.t1.sl,hI.t2.sl,Nat.le_trans hI.t1.nc hI.t1.cm,Nat.le_trans hI.t2.nc hI.t2.cm,?_,Nat.le_trans hI.dcap.1 hI.dcap.2,hI.dlt⟩,?_⟩
 ·have h3:cs.toList=AA (CV f (.slice a1 n1 k1) (.slice a2 n2 k2) (.slice ad nd kd)):=h1
  show Value.agg cs=Value.agg _
  rw [←h3]
 ·have e:(Al f).map (Value.int .u8)=f.data.map fun (x:Nat)=>Value.int .u8 (x:Int):=by rw [Al,List.map_map];rfl
  rw [e];exact hI.dsl
 rw [e];simp only [Rows.uptoBulk];omega
/-! ### Rows of bytes of the call's own, whatever they hold -/
structure Rv where
 ad:Option Addr
 n:Nat
 c:Nat
 cs:List Value
def Rv.val(p:Rv):Value:= .slice p.ad p.n p.c
def Rv.res(p:Rv):Ac:=own 5 1 p.ad p.n p.c p.cs
def Pc.rv(p:Pc):Rv:=⟨p.ad,p.xs.length,p.c,p.xs.map (Value.int .u8)⟩
theorem Me(l:List Pc):l.map Pc.val=(l.map Pc.rv).map Rv.val:=by rw [List.map_map];rfl
theorem Md(l:List Pc):l.map Pc.res=(l.map Pc.rv).map Rv.res:=by rw [List.map_map];rfl
theorem Eu(r:Ac)(bs rs:List Ac):∀us:List Ac,AI r (us++r::bs++rs) (us++bs++rs)
 | []=> .head
 | a::us=> .tail (Eu r bs rs us)
theorem GW(r:Ac)(bs:List Ac):∀us:List Ac,H3 (us++r::bs) (r::(us++bs))
 | []=> .refl
 | a::us=> .cons (.tail .head) (GW r bs us)
theorem Jo{W w:World}{us bs rs:List Ac}{r:Ac}(h:St W w (star (us++r::bs)::rs)):St W w (r::star (us++bs)::rs):=by
 obtain ⟨_,h1⟩:=h.open
 have h2:=h1.pull (Eu r bs rs us)
 have h3:St W w ((fun _:Unit=>us++bs) ()++(r::rs)):=by
  refine h2.sub ?_
  have:=GW r rs (us++bs)
  exact this
 exact (St.close () h3).sub (.cons (.tail .head) (.cons .head .refl))
theorem Jn{W w:World}{us bs rs:List Ac}{r:Ac}(h:St W w (r::star (us++bs)::rs)):St W w (star (us++r::bs)::rs):=by
 obtain ⟨_,h1⟩:=(h.sub (xs:=star (us++bs)::r::rs) (.cons (.tail .head) (.cons .head .refl))).open
 have h2:St W w ((fun _:Unit=>us++r::bs) ()++rs):=by
  have h3:=h1.pull (show AI r (us++bs++(r::rs)) (us++bs++rs) from by have:=Eu r rs [] (us++bs);simpa using this)
  refine h3.sub ?_
  have:=GW r (bs++rs) us
  simpa using this
 exact St.close () h2
theorem GS{w:World}{s n c m:Nat}{ad:Option Addr}{cs:List Value}(h:Sl w s (.slice ad n c) m cs):n≤9223372036854775807:=by
 obtain ⟨_,aa,cc,e,h1,h2,_⟩:=h
 cases e
 unfold maxLen at h2
 omega
theorem Fe(w0:World)(a:Option Addr)(n c:Nat)(xs:List Int)(hs:Sl w0 1 (.slice a n c) n (xs.map (Value.int .u8)))(hn:n≤100000000):
 Calls Tryd.prog 6 #[.slice a n c] w0 fun e w=>∃b j,e= .returned (.slice b n j)∧St w0 w [own 5 1 b n j (xs.map (Value.int .u8))]:=by
 have hS:=St.start w0
 go_enter Tryd.func6,Tryd.ntmps6
 repeat' (first
  | refine X0 ?_|refine NH 4 ?_;clear hS;intro ad4 c4 w hS|refine AG ?_;go_step|fail)
 rw [List.nil_append] at hS
 go_ret
 refine ⟨_,_,congrArg (fun k=>Ending.returned (Value.slice _ k _)) (Nat.zero_add n),?_⟩
 rw [Nat.zero_add] at hS
 exact hS.sub Ao
theorem Mh(w0:World)(a:Option Addr)(n c:Nat)(xs:List Int)(hs:Sl w0 1 (.slice a n c) n (xs.map (Value.int .u8)))(hx:∀x∈xs,0≤x∧x<256)(hb:n≤1000000000):
 Calls Tryd.prog 8 #[.slice a n c] w0 fun e w=>∃(R:List Rv) (ao am:Option Addr) (co cm lo lm:Nat) (er:Int),lo=R.length∧lo≤n+1∧e= .returned (.tuple #[.slice ao lo co, .slice am lm cm, .int .i64 er])∧St w0 w [own 22 1 ao lo co (R.map Rv.val),star (R.map Rv.res)]:=by
 cases hT:DF xs [] [] [] with
 | none=>
   refine (Bj w0 a n c xs hs hx hb).mono fun e w ⟨h1,_⟩=>?_
   obtain ⟨rfl,hE⟩:=h1 hT
   exact ⟨[],none,none,0,0,0,0,4,rfl,by omega,rfl,((((St.start w0).ext hE).star0).nil 22 1)⟩
 | some T=>
   obtain ⟨ps,ms⟩:=T
   refine (Bj w0 a n c xs hs hx hb).mono fun e w ⟨_,h1⟩=>?_
   obtain ⟨pcs,ao,am,co,cm,lo,lm,hlo,hlm,hpc,rfl,hS⟩:=h1 ps ms hT
   obtain ⟨q,r,e1,e2,e3,_,_⟩:=CO xs.length xs _ _ _ _ _ (Nat.le_refl _) hT
   simp only [List.nil_append] at e1
   have hfl:∀l:List (Int×List Int),l.length≤(l.flatMap fun y=>255::y.1::y.2).length:=fun l=>by
    induction l with
    | nil=>exact Nat.le_refl _
    | cons y l ih=>rw [List.flatMap_cons,List.length_append,List.length_cons,List.length_cons,List.length_cons];omega
   have h2:=hfl r
   have h3:xs.length=n:=by have:=hs.1;simpa using this
   have h4:=congrArg List.length e3
   rw [List.length_append] at h4
   have h5:pcs.length=ps.length:=by rw [←hpc,List.length_map]
   refine ⟨pcs.map Pc.rv,ao,am,co,cm,lo,lm,0,by rw [List.length_map,h5,hlo],by rw [hlo,e1,List.length_cons,List.length_map];omega,rfl,?_⟩
   rw [←Me,←Md]
   exact hS.sub Ao
theorem Ma(w0:World)(a:Option Addr)(n c:Nat)(xs:List Int)(hs:Sl w0 1 (.slice a n c) n (xs.map (Value.int .u8)))(hnil:a=none→c=0)(hx:∀x∈xs,0≤x∧x<256)(hb1:n≤1000000000)(hml:∃m,w0.cell? ⟨0,0,none⟩=some (.int .i64 m)):
 Calls Tryd.prog 9 #[.slice a n c] w0 fun e w=>∃(aq:Option Addr) (nq cq:Nat) (cs:List Value) (er:Int),e= .returned (.tuple #[.slice aq nq cq, .int .i64 er])∧St w0 w [own 5 1 aq nq cq cs]:=by
 refine (Jg w0 a n c xs hs hnil hx hb1 hml).mono fun e w ⟨h1,h2⟩=>?_
 by_cases h:∃cc,xs=ET cc
 ·obtain ⟨cc,h⟩:=h
  obtain ⟨ao,c',rfl,hS⟩:=h1 cc h
  exact ⟨ao,_,c',_,0,rfl,hS⟩
 obtain ⟨rfl,hE⟩:=h2 fun cc h3=>h ⟨cc,h3⟩
 exact ⟨none,0,0,[],4,rfl,((St.start w0).ext hE).nil 5 1⟩
theorem IS(l:List Int):Ag (BR l).quant 64∧Ag (BR l).c1 16∧Ag (BR l).c2 16:=by
 refine ⟨?_,by simp [Ag,BR,EN],by simp [Ag,BR,EN]⟩
 unfold Ag
 simp only [BR];exact EB _
theorem MY(w0:World)(a:Option Addr)(n c:Nat)(l:List Int)(hv:Sl w0 1 (.slice a n c) n (l.map (Value.int .u8)))(hr:∀x∈l,0≤x∧x<256)(hn:n≤1000000000):
 Calls Tryd.prog 10 #[.slice a n c] w0 (Cr w0):=by
 have hz:∀(er:Int) w,AX w0 w→Cr w0 (.returned (.tuple #[fz, .int .i64 er])) w:=fun er w h=>
  ⟨0,0,0,0,er,List.replicate 64 0,List.replicate 16 0,List.replicate 16 0,[],none,none,0,0,0,0,none,0,0,Ag.rep,Ag.rep,Ag.rep,rfl,(((St.start w0).ext h).nilk 5 1 .u8)⟩
 have Cv:Hid (∀i,i<l.length→0≤AF l i∧AF l i<256):=fun i hi=>hr _ (by simp [AF,List.getD,hi])
 by_cases h:91000<n
 ·exact (HJ w0 a n c l hv h (by omega)).mono fun e w ⟨h1,h2⟩=>h1▸ hz 2 w h2
 refine (IT w0 a n c l hv Cv (by omega)).mono fun e w ⟨h1,h2⟩=>?_
 by_cases hE:Bo l=0
 ·obtain ⟨a1,a2,ad,c1,c2,cd,rfl,hS⟩:=h2 hE
  have hl:=IS l
  obtain ⟨F,hF⟩:∃F,BR l=F:=⟨_,rfl⟩
  rw [hF] at hl hS⊢
  exact ⟨F.wide,F.high,F.parts,F.every,0,F.quant,F.c1,F.c2,Al F,a1,a2,Iz l,c1,LA l,c2,ad,_,cd,hl.1,hl.2.1,hl.2.2,rfl,hS.sub Ao⟩
 obtain ⟨rfl,h3⟩:=h1 hE
 exact hz _ w h3
theorem EY{H:Type}{enc:TypeId×Value→H}{d0 d1 d2:DataW H}{p0 p1 p2:List MemPlace}{v0 v1 v2:Value}{base:Nat}(W:World)
 (o0:Value.okWide Tryd.prog W .any base 22 v0) (h0:DataW.Trod enc Tryd.prog W 0 (fun _=>true) true 22 v0 d0 p0) (lt0:∀x∈p0,x.block<W.heap.size)
 (o1:Value.okWide Tryd.prog W .any base 23 v1) (h1:DataW.Trod enc Tryd.prog W 0 (fun _=>true) true 23 v1 d1 p1) (lt1:∀x∈p1,x.block<W.heap.size)
 (o2:Value.okWide Tryd.prog W .any base 32 v2) (h2:DataW.Trod enc Tryd.prog W 0 (fun _=>true) true 32 v2 d2 p2) (lt2:∀x∈p2,x.block<W.heap.size)
 (hbulk:Rows.uptoSmall H [d0,d1,d2]=true) (hsh:W.ShapedOpen Tryd.prog):
 Calls Tryd.prog 3 #[v0,v1,v2] W fun e w'=>e= .returned (.bool true)∧AX W w':=by
 obtain ⟨n,xs,ad,c,rfl,hs,hr,hnil,hb⟩:=Jc o0 h0
 have hbk:=GA hbulk (d:=d0) (by simp)
 obtain ⟨nl,L,al,cl,_,rfl,_,_,hsl,_,hbl⟩:=La o1 h1
 have hbk1:=GA hbulk (d:=d1) (by simp)
 obtain ⟨f,a1,a2,a3,n1,k1,n2,k2,nd,kd,rfl,hF,hbd⟩:=Kj o2 h2
 have hbk2:=GA hbulk (d:=d2) (by simp)
 have hml:∃m,W.cell? ⟨0,0,none⟩=some (.int .i64 m):=Tryd.laysM185.s1_3 W hsh
 have hln:xs.length=n:=by have:=hs.1;simpa using this
 have hdn:(Al f).length=nd:=by have:=hF.sd.1;simpa using this
 have HCB:=AD fun (w:World)(hx:AX W w)=>Fe w ad n c xs (hs.ext hx) (by omega)
 have HCD:=AD fun (w:World)(hx:AX W w)=>Fe w a3 nd kd (Al f) (hF.sd.ext hx) (by omega)
 have HST:=AD fun (w:World)(hx:AX W w)=>Fr w ad n c xs (hs.ext hx) hnil hr (by omega)
 have HSP:=AD fun (w:World)(hx:AX W w)=>Mh w ad n c xs (hs.ext hx) hr (by omega)
 have HPL:=AD fun (w:World)(hx:AX W w)=>Ma w ad n c xs (hs.ext hx) hnil hr (by omega) (hml.imp fun m h=>hx.cell h)
 have HPA:=AD fun (w:World)(hx:AX W w)=>MY w ad n c xs (hs.ext hx) hr (by omega)
 have HHU:=AD fun (w:World)(hx:AX W w)=>KS w f a1 a2 a3 n1 k1 n2 k2 nd kd (hF.ext hx)
 have HMK:=AD fun (w:World)(hx:AX W w)=>JY w L al nl cl (hsl.ext hx) (by omega)
 have HEB:Hid (∀w v,AX W w→Ii w v xs→Calls Tryd.prog 13 #[.slice ad n c,v] w fun e w'=>e= .returned (.bool true)∧w=w'):=fun w v hx hv=>DN w _ v xs xs (by unfold Ii;rw [hln];exact hs.ext hx) hv rfl
 have HED:Hid (∀w v,AX W w→Ii w v (Al f)→Calls Tryd.prog 13 #[.slice a3 nd kd,v] w fun e w'=>e= .returned (.bool true)∧w=w'):=fun w v hx hv=>DN w _ v (Al f) (Al f) (by unfold Ii;rw [hdn];exact hF.sd.ext hx) hv rfl
 obtain ⟨DD,hDD⟩:∃D,Al f=D:=⟨_,rfl⟩
 rw [hDD] at HCD HED hdn
 obtain ⟨SS,hSS⟩:∃S,ET xs=S:=⟨_,rfl⟩
 obtain ⟨sn,hsn⟩:∃n,SS.length=n:=⟨_,rfl⟩
 rw [hSS,hsn] at HST
 have hQ:=hF.q
 have hC1:=hF.l1
 have hC2:=hF.l2
 have hn:n≤1048576:=by omega
 have HND:Hid (nd≤1048576):=AD (by omega)
 have hS:=St.start W
 have HSN:=AD (And.intro hsn (And.intro hln hdn))
 clear hs hr hnil hb hbk hsl hbl hbk1 hF hbd hbk2 hml hDD hSS hsn hln hdn o0 h0 lt0 o1 h1 lt1 o2 h2 lt2 hbulk hsh
 obtain ⟨m,h,p,Q,C1,S1,C2,S2,ev,D⟩:=f
 dsimp only [fv,CV] at hQ hC1 hC2 HHU HCD HED⊢
 go_enter Tryd.func3,Tryd.ntmps3
 repeat' (first
  | (refine Am 4 ?_);refine An AB Tryd.call4 (JQ _) (Gd hS ?_);clear hS;intro w hS;go_step|(refine Am 5 ?_);refine An AB Tryd.call5 (Hk _) (Gd hS ?_);clear hS;intro w hS;go_step|refine X0 ?_|refine H0 ?_|refine X9 28 ?_ ?_<;>intro hB<;>(try exact Hb hB)<;>go_step|(refine AU 31 ?_);(refine Av AB (V.not rfl) ?_;go_step)|refine Ik 5 ?_;clear hS;intro g5 w hS|refine AG ?_;go_step|fail)
 all_goals (try exact Ar)
 have hd9:nd≤1048576:=HND.out
 refine AZ [4] (fun w=>St W w [prt g5 [.val (.int .i64 m), .val (.int .i64 h), .val (.int .i64 p), .ints Q, .ints C1, .val (.slice a1 n1 k1), .ints C2, .val (.slice a2 n2 k2), .val (.int .i64 ev), .val (.slice a3 nd kd)]]) AB ?_
 replace hS:=hS.drew
 focus
  refine Ai 0 ?_
  refine Dw 2 DG (V.fieldAddr En rfl CD) ?_;go_step
  refine Y9 3 [4,5,6] ?_
  refine Cb 1 ?_
  refine CC (f:=6) rfl Tryd.call6 (HCB.out _ hS.1) ?_;rintro e w ⟨b7,j7,rfl,hS2⟩;replace hS:=hS.call1 hS2;clear hS2;refine ⟨_,rfl,?_⟩
  refine ⟨fun _ _=>hS.sub Ao,?_⟩
  refine AK ?_
  go_step
  refine Cb 4 ?_
  refine CC (f:=6) rfl Tryd.call6 (HCD.out _ hS.1) ?_;rintro e w ⟨b8,j8,rfl,hS2⟩;replace hS:=hS.call1 hS2;clear hS2;refine ⟨_,rfl,?_⟩
  refine ⟨fun h=>absurd (by decide) h,?_⟩
  refine AK ?_
  go_step
  refine Ai 5 ?_
  refine Ai 6 ?_
  refine AO AB ?_ _
 repeat' (first|(refine AG ?_;go_step)|fail)
 repeat' (first
  | (refine Am 7 ?_);refine An AB Tryd.call7 (HST.out _ hS.1) ?_;rintro e w ⟨b9,j9,rfl,hS2⟩;replace hS:=hS.call1 hS2;clear hS2;refine As ?_;go_step|(refine Am 8 ?_);refine An AB Tryd.call8 (HSP.out _ hS.1) ?_;rintro e w ⟨R,ao,am,co,cm,lo,lm,er5,hlo,hln,rfl,hS2⟩;replace hS:=hS.call hS2;clear hS2;simp only [List.cons_append,List.nil_append] at hS;have HLO:=AD hlo;clear hlo;refine As ?_;go_step|(refine Am 9 ?_);refine An AB Tryd.call9 (HPL.out _ hS.1) ?_;rintro e w ⟨aq,nq,cq,csq,er6,rfl,hS2⟩;replace hS:=hS.call1 hS2;clear hS2;refine As ?_;go_step|refine X0 ?_|refine X4 43 ?_|refine X4 44 ?_|refine X4 45 ?_|refine X4 49 ?_|refine X4 50 ?_|refine AG ?_;go_step|fail)
 repeat' (first
  | refine X1 ?_|refine NS 56 ?_|(refine AU 54 ?_);(refine A3 ?_;apply AM (o:=⟨some 54,_,_,_,_,_⟩) hS 35 2 _ rfl 22 1 24 IB _ _;(case hvs=>(repeat (first|exact AN.nil|(apply AN.agg;(rfl);(rfl))|(apply AN.one;exact Bx;(rfl);(rfl)))));(case hn=>rfl);(case hn0=>decide);(case hns=>decide);clear hS;intro g54 w hS;refine AC ?_;go_step)|refine NJ 55 ?_;clear hS;intro ad55 c55 w hS|refine AG ?_;go_step|fail)
 obtain ⟨R2,hR2⟩:∃R2:List Rv,R++[⟨b9,sn,j9,SS.map (Value.int .u8)⟩]++[⟨aq,nq,cq,csq⟩]=R2:=⟨_,rfl⟩
 have hV2:R.map Rv.val++[.slice b9 sn j9, .slice aq nq cq]=R2.map Rv.val:=by rw [←hR2];simp [Rv.val]
 have hL2:R2.length=lo+2:=by rw [←hR2,List.length_append,List.length_append,←HLO.out];rfl
 have hZ2:R2.map Rv.res=R.map Rv.res++[Rv.res ⟨b9,sn,j9,SS.map (Value.int .u8)⟩]++[Rv.res ⟨aq,nq,cq,csq⟩]:=by rw [←hR2,List.map_append,List.map_append];rfl
 have hS9:St W w (star (R2.map Rv.res)::[prt g5 [.val (.int .i64 m), .val (.int .i64 h), .val (.int .i64 p), .ints Q, .ints C1, .val (.slice a1 n1 k1), .ints C2, .val (.slice a2 n2 k2), .val (.int .i64 ev), .val (.slice a3 nd kd)],own 5 1 b7 n j7 (xs.map (Value.int .u8)),own 5 1 b8 nd j8 (DD.map (Value.int .u8)),own 22 1 ad55 (lo+2) c55 (R2.map Rv.val)]):=by
  rw [hZ2,←hV2]
  have h1:=hS.sub (xs:=star (R.map Rv.res)::Rv.res ⟨b9,sn,j9,SS.map (Value.int .u8)⟩::Rv.res ⟨aq,nq,cq,csq⟩::[prt g5 [.val (.int .i64 m), .val (.int .i64 h), .val (.int .i64 p), .ints Q, .ints C1, .val (.slice a1 n1 k1), .ints C2, .val (.slice a2 n2 k2), .val (.int .i64 ev), .val (.slice a3 nd kd)],own 5 1 b7 n j7 (xs.map (Value.int .u8)),own 5 1 b8 nd j8 (DD.map (Value.int .u8)),own 22 1 ad55 (lo+2) c55 (R.map Rv.val++[.slice b9 sn j9, .slice aq nq cq])]) (by unfold Rv.res;exact Ao)
  exact (h1.starPut .head).starPut .head
 obtain ⟨XV,hXV⟩:∃XV,R2.map Rv.val=XV:=⟨_,rfl⟩
 rw [hXV] at hS9
 have HXV:=AD (And.intro hXV hL2)
 obtain ⟨lo2,hlo2⟩:∃x,lo+2=x:=⟨_,rfl⟩
 rw [hlo2] at hS9 hL2 HXV⊢
 have hlo3:lo2≤2000000:=by omega
 clear hS hR2 hV2 hZ2 hXV hL2
 have hS:=hS9
 clear hS9
 go_loopg [57] lo2 (fun gk kv w=>∃(k:Nat) (T:List Rv),gk+k=lo2∧kv= .int .i64 k∧T.map Rv.val=XV∧T.length=lo2∧St W w [star (T.map Rv.res),prt g5 [.val (.int .i64 m), .val (.int .i64 h), .val (.int .i64 p), .ints Q, .ints C1, .val (.slice a1 n1 k1), .ints C2, .val (.slice a2 n2 k2), .val (.int .i64 ev), .val (.slice a3 nd kd)],own 5 1 b7 n j7 (xs.map (Value.int .u8)),own 5 1 b8 nd j8 (DD.map (Value.int .u8)),own 22 1 ad55 lo2 c55 XV])
 case atStart=>exact ⟨0,R2,by omega,rfl,HXV.out.1,HXV.out.2,hS⟩
 case round=>
  clear hS
  obtain ⟨k,T,hk,rfl,hT,hTl,hS⟩:=hrel
  by_cases hlt:k<lo2
  ·obtain ⟨A,q,B9,hAB,hAk⟩:∃A q B,T=A++q::B∧A.length=k:=⟨T.take k,T[k]'(by omega),T.drop (k+1),by rw [←List.drop_eq_getElem_cons (by omega),List.take_append_drop],by rw [List.length_take];omega⟩
   obtain ⟨qa,qn,qc,qs⟩:=q
   subst hAB
   have hg0:XV[k]? =some (.slice qa qn qc):=by rw [←hT,List.map_append,List.map_cons,List.getElem?_append_right (by rw [List.length_map,hAk];exact Nat.le_refl _),List.length_map,hAk,Nat.sub_self];rfl
   rw [List.map_append,List.map_cons] at hS
   have hS9:=Jo hS
   have hS:St W wr [own 5 1 qa qn qc qs,star (A.map Rv.res++B9.map Rv.res),prt g5 [.val (.int .i64 m), .val (.int .i64 h), .val (.int .i64 p), .ints Q, .ints C1, .val (.slice a1 n1 k1), .ints C2, .val (.slice a2 n2 k2), .val (.int .i64 ev), .val (.slice a3 nd kd)],own 5 1 b7 n j7 (xs.map (Value.int .u8)),own 5 1 b8 nd j8 (DD.map (Value.int .u8)),own 22 1 ad55 lo2 c55 XV]:=hS9
   have HTL:=AD (And.intro hT hTl)
   have HAK:=AD hAk
   clear hS9 hT hTl hAk
   have hqm:=GS (hS.sl (a:=qa) (s:=1) AQ)
   obtain ⟨gk1,hgk1⟩:∃x,x=gk:=⟨_,rfl⟩
   subst hgk1
   obtain ⟨b55,rfl⟩:=BO (a:=ad55) hS AQ (by omega)
   repeat' (first
    | refine X0 ?_|refine X2 58 ?_|(refine AU 59 ?_);(refine Av AB (V.indexSl Tryd.underlying35 KW rfl rfl BL (by omega) (Nat.mul_one _) CD) ?_;go_step)|refine J6 62 ?_|refine OQ ?_|refine AG ?_;go_step|fail)
   all_goals (try exact Ar)
   go_loopg [63] qn (fun gk kv w=>∃(i:Nat) (cs:List Value),gk+i=qn∧kv= .int .i64 i∧St W w [own 5 1 qa qn qc cs,star (A.map Rv.res++B9.map Rv.res),prt g5 [.val (.int .i64 m), .val (.int .i64 h), .val (.int .i64 p), .ints Q, .ints C1, .val (.slice a1 n1 k1), .ints C2, .val (.slice a2 n2 k2), .val (.int .i64 ev), .val (.slice a3 nd kd)],own 5 1 b7 n j7 (xs.map (Value.int .u8)),own 5 1 b8 nd j8 (DD.map (Value.int .u8)),own 22 1 (some ⟨b55,0,none⟩) lo2 c55 XV])
   case atStart=>exact ⟨0,_,by omega,rfl,hS.sub Ao⟩
   case round=>
    clear hS
    obtain ⟨i,cs,hi,rfl,hS⟩:=hrel
    by_cases hlt2:i<qn
    ·obtain ⟨qb,rfl⟩:=BO (a:=qa) hS AQ (by omega)
     repeat' (first
      | refine X0 ?_|refine X2 64 ?_|refine Il 68 ?_|refine J5 69 ?_|refine OF ?_;clear hS;intro w hS|refine AG ?_;go_step|fail)
     all_goals (try exact Ar)
     go_roundg (gk-1)
     case measure=>omega
     case rel=>exact ⟨i+1,_,by omega,by go_num,hS.sub Ao⟩
    obtain rfl:i=qn:=by omega
    repeat' (first
     | refine X2 64 ?_|refine AG ?_;go_step|fail)
    all_goals (try exact Ar)
    repeat' (first
     | refine X1 ?_|refine J5 70 ?_|refine AG ?_;go_step|fail)
    go_roundg (gk1-1)
    case measure=>omega
    case rel=>
     refine ⟨k+1,A++⟨qa,i,qc,cs⟩::B9,by omega,by go_num,?_,?_,?_⟩
     ·rw [←HTL.out.1,List.map_append,List.map_append,List.map_cons,List.map_cons];rfl
     ·rw [←HTL.out.2,List.length_append,List.length_append,List.length_cons,List.length_cons]
     rw [List.map_append,List.map_cons]
     exact Jn (r:=Rv.res ⟨qa,i,qc,cs⟩) hS
  obtain rfl:k=lo2:=by omega
  repeat' (first
   | refine X1 ?_|refine X2 58 ?_|refine AG ?_;go_step|fail)
  all_goals (try exact Ar)
  repeat' (first
   | (refine Am 10 ?_);refine An AB Tryd.call10 (HPA.out _ hS.1) ?_;rintro e w ⟨x3,y3,z3,w3,e3,Q3,P3,T3,D3,q3,r3,l3,c3,o3,s3,bd3,N3,jd3,hQ3,hP3,hT3,rfl,hS2⟩;replace hS:=hS.call1 hS2;clear hS2;refine As ?_;go_step|refine X0 ?_|refine X4 74 ?_|refine X4 75 ?_|refine LM 18 ?_;clear hS;intro g18 w hS|refine J2 ?_;clear hS;intro w hS|refine AG ?_;go_step|fail)
  repeat' (first
   | refine X1 ?_|refine JG 76 ?_|refine J6 78 ?_|refine J4 ?_|refine AG ?_;go_step|fail)
  have hNm:=GS (hS.sl (a:=bd3) (s:=1) AQ)
  go_loopg [79] N3 (fun gk kv w=>∃(i:Nat) (cs:List Value),gk+i=N3∧kv= .int .i64 i∧St W w [prt g5 [.val (.int .i64 m), .val (.int .i64 h), .val (.int .i64 p), .ints Q, .ints C1, .val (.slice a1 n1 k1), .ints C2, .val (.slice a2 n2 k2), .val (.int .i64 ev), .val (.slice a3 nd kd)],own 5 1 b7 n j7 (xs.map (Value.int .u8)),own 5 1 b8 nd j8 (DD.map (Value.int .u8)),prt g18 [.val (.int .i64 x3), .val (.int .i64 y3), .val (.int .i64 z3), .ints Q3, .ints P3, .val (.slice q3 l3 c3), .ints T3, .val (.slice r3 o3 s3), .val (.int .i64 w3), .val (.slice bd3 N3 jd3)],own 5 1 bd3 N3 jd3 cs])
  case atStart=>exact ⟨0,_,by omega,rfl,hS.sub Ao⟩
  case round=>
   clear hS
   obtain ⟨i,cs,hi,rfl,hS⟩:=hrel
   by_cases hlt:i<N3
   ·obtain ⟨qb,rfl⟩:=BO (a:=bd3) hS AQ (by omega)
    repeat' (first
     | refine X0 ?_|refine X2 80 ?_|refine JG 82 ?_|refine Il 85 ?_|refine J5 86 ?_|refine J4 ?_|refine OF ?_;clear hS;intro w hS|refine AG ?_;go_step|fail)
    all_goals (try exact Ar)
    go_roundg (gk-1)
    case measure=>omega
    case rel=>exact ⟨i+1,_,by omega,by go_num,hS.sub Ao⟩
   obtain rfl:i=N3:=by omega
   repeat' (first
    | refine X2 80 ?_|refine AG ?_;go_step|fail)
   all_goals (try exact Ar)
   repeat' (first
    | (refine Am 11 ?_);refine An AB Tryd.call11 (HHU.out _ hS.1) ?_;rintro e w ⟨x4,y4,z4,w4,e4,Q4,P4,T4,D4,q4,r4,l4,c4,o4,s4,bd4,N4,jd4,hQ4,hP4,hT4,rfl,hS2⟩;replace hS:=hS.call1 hS2;clear hS2;refine As ?_;go_step|refine X0 ?_|refine X4 90 ?_|refine X4 91 ?_|refine KD ?_|refine LM 21 ?_;clear hS;intro g21 w hS|refine J2 ?_;clear hS;intro w hS|refine AG ?_;go_step|fail)
   repeat' (first
    | refine X1 ?_|refine JG 92 ?_|refine J6 94 ?_|refine J4 ?_|refine AG ?_;go_step|fail)
   have hNm:=GS (hS.sl (a:=bd4) (s:=1) AQ)
   go_loopg [95] N4 (fun gk kv w=>∃(i:Nat) (cs:List Value),gk+i=N4∧kv= .int .i64 i∧St W w [prt g5 [.val (.int .i64 m), .val (.int .i64 h), .val (.int .i64 p), .ints Q, .ints C1, .val (.slice a1 n1 k1), .ints C2, .val (.slice a2 n2 k2), .val (.int .i64 ev), .val (.slice a3 nd kd)],own 5 1 b7 n j7 (xs.map (Value.int .u8)),own 5 1 b8 nd j8 (DD.map (Value.int .u8)),prt g21 [.val (.int .i64 x4), .val (.int .i64 y4), .val (.int .i64 z4), .ints Q4, .ints P4, .val (.slice q4 l4 c4), .ints T4, .val (.slice r4 o4 s4), .val (.int .i64 w4), .val (.slice bd4 N4 jd4)],own 5 1 bd4 N4 jd4 cs])
   case atStart=>exact ⟨0,_,by omega,rfl,hS.sub Ao⟩
   case round=>
    clear hS
    obtain ⟨i,cs,hi,rfl,hS⟩:=hrel
    by_cases hlt:i<N4
    ·obtain ⟨qb,rfl⟩:=BO (a:=bd4) hS AQ (by omega)
     repeat' (first
      | refine X0 ?_|refine X2 96 ?_|refine JG 98 ?_|refine Il 101 ?_|refine J5 102 ?_|refine J4 ?_|refine OF ?_;clear hS;intro w hS|refine AG ?_;go_step|fail)
     all_goals (try exact Ar)
     go_roundg (gk-1)
     case measure=>omega
     case rel=>exact ⟨i+1,_,by omega,by go_num,hS.sub Ao⟩
    obtain rfl:i=N4:=by omega
    repeat' (first
     | refine X1 ?_|refine X2 96 ?_|refine AG ?_;go_step|fail)
    all_goals (try exact Ar)
    repeat' (first
     | (refine Am 12 ?_);refine An AB Tryd.call12 (HMK.out _ hS.1) ?_;rintro e w ⟨C5,S5,ao5,m5,co5,hC5,-,-,-,-,rfl,hS2⟩;replace hS:=hS.call1 hS2;clear hS2;refine As ?_;go_step|refine X0 ?_|refine X4 106 ?_|refine X4 107 ?_|refine LL 24 ?_;clear hS;intro g24 w hS|refine LN ?_;clear hS;intro w hS|refine AG ?_;go_step|fail)
    repeat' (first
     | refine X1 ?_|refine M0 108 ?_|refine JH 110 ?_|refine MI ?_|refine AG ?_;go_step|fail)
    have hNm:=GS (hS.sl (a:=ao5) (s:=1) AQ)
    go_loopg [111] m5 (fun gk kv w=>∃(i:Nat) (cs:List Value),gk+i=m5∧kv= .int .i64 i∧St W w [prt g5 [.val (.int .i64 m), .val (.int .i64 h), .val (.int .i64 p), .ints Q, .ints C1, .val (.slice a1 n1 k1), .ints C2, .val (.slice a2 n2 k2), .val (.int .i64 ev), .val (.slice a3 nd kd)],own 5 1 b7 n j7 (xs.map (Value.int .u8)),own 5 1 b8 nd j8 (DD.map (Value.int .u8)),prt g24 [.ints C5, .val (.slice ao5 m5 co5)],own 3 1 ao5 m5 co5 cs])
    case atStart=>exact ⟨0,_,by omega,rfl,hS.sub Ao⟩
    case round=>
     clear hS
     obtain ⟨i,cs,hi,rfl,hS⟩:=hrel
     by_cases hlt:i<m5
     ·obtain ⟨qb,rfl⟩:=BO (a:=ao5) hS AQ (by omega)
      repeat' (first
       | refine X0 ?_|refine X2 112 ?_|refine M0 114 ?_|(refine AU 117 ?_);(refine Av AB (V.indexSl Tryd.underlying23 DC rfl rfl BL (by omega) (Nat.mul_one _) CD) ?_;go_step)|refine J5 118 ?_|refine MI ?_|(with_reducible refine Az _ (.store 3 _ _) ?_);(refine A3 ?_;apply FE hS 3 _ _ rfl _ _ rfl (Ab rfl) _ _ _ _ _;(case hp=>exact AQ);(case hy=>exact Bx);(case hv=>rfl);(case hi=>omega);(case hd=>exact rfl);clear hS;intro w hS)|refine AG ?_;go_step|fail)
      all_goals (try exact Ar)
      go_roundg (gk-1)
      case measure=>omega
      case rel=>exact ⟨i+1,_,by omega,by go_num,hS.sub Ao⟩
     obtain rfl:i=m5:=by omega
     repeat' (first
      | refine X1 ?_|refine X2 112 ?_|refine AG ?_;go_step|fail)
     all_goals (try exact Ar)
     have hb7:Ii wr (.slice b7 n j7) xs:=(by have h9:=hS.sl (a:=b7) (s:=1) AQ;unfold Ii;rw [HSN.out.2.1];exact h9)
     have hb8:Ii wr (.slice b8 nd j8) DD:=(by have h9:=hS.sl (a:=b8) (s:=1) AQ;unfold Ii;rw [HSN.out.2.2];exact h9)
     have HB1:=AD (HEB.out _ _ hS.1 hb7)
     have HB2:=AD (HED.out _ _ hS.1 hb8)
     clear hb7 hb8
     repeat' (first
      | (refine AU 121 ?_);refine Ay (f:=13) Tryd.call13 AB ?_;refine ⟨_,(HB1.out),?_⟩;rintro e w ⟨rfl,rfl⟩;refine As ?_;go_step|(refine AU 126 ?_);refine Ay (f:=13) Tryd.call13 AB ?_;refine ⟨_,(HB2.out),?_⟩;rintro e w ⟨rfl,rfl⟩;refine As ?_;go_step|refine X0 ?_|refine X5 ?_|refine JG 123 ?_|refine J4 ?_|refine AG ?_;go_step|fail)
     all_goals (try exact Ar)
     go_ret
     exact ⟨rfl,hS.1⟩
end Go.Proofs.YtkcbhcajfcfmmaaDoor
namespace Go.Proofs.YtkcbhcajfcfmmaaDoor
attribute [local irreducible] Region.wanted
open Go.ChangeShapes Go.WideShapes Go.ChangeAt Go.RowKit
set_option linter.unusedVariables false
set_option maxRecDepth 100000
set_option maxHeartbeats 8000000
def BH:Array Value:=#[.slice none 0 0, .slice none 0 0, .agg #[.int .i64 0, .int .i64 0, .int .i64 0, .int .i64 0, .int .i64 0, .int .i64 0, .int .i64 0, .int .i64 0, .int .i64 0, .int .i64 0, .int .i64 0, .int .i64 0, .int .i64 0, .int .i64 0, .int .i64 0, .int .i64 0, .int .i64 0, .int .i64 0, .int .i64 0, .int .i64 0, .int .i64 0, .int .i64 0, .int .i64 0, .int .i64 0, .int .i64 0, .int .i64 0, .int .i64 0, .int .i64 0, .int .i64 0, .int .i64 0, .int .i64 0, .int .i64 0, .int .i64 0, .int .i64 0, .int .i64 0, .int .i64 0, .int .i64 0, .int .i64 0, .int .i64 0, .int .i64 0, .int .i64 0, .int .i64 0, .int .i64 0, .int .i64 0, .int .i64 0, .int .i64 0, .int .i64 0, .int .i64 0, .int .i64 0, .int .i64 0, .int .i64 0, .int .i64 0, .int .i64 0, .int .i64 0, .int .i64 0, .int .i64 0, .int .i64 0, .int .i64 0, .int .i64 0, .int .i64 0, .int .i64 0, .int .i64 0, .int .i64 0, .int .i64 0, .int .i64 0, .int .i64 0, .int .i64 0, .int .i64 0, .int .i64 0, .int .i64 0, .int .i64 0, .int .i64 0, .int .i64 0, .int .i64 0, .int .i64 0, .int .i64 0, .int .i64 0, .int .i64 0, .int .i64 0, .int .i64 0, .int .i64 0, .int .i64 0, .int .i64 0, .slice none 0 0, .int .i64 0, .int .i64 0, .int .i64 0, .int .i64 0, .int .i64 0, .int .i64 0, .int .i64 0, .int .i64 0, .int .i64 0, .int .i64 0, .int .i64 0, .int .i64 0, .int .i64 0, .int .i64 0, .int .i64 0, .int .i64 0, .slice none 0 0, .int .i64 0, .slice none 0 0]]
theorem FO:ownKnob Tryd.prog.godebug=none:=by kernel_rfl
theorem BZ:laidOutB Tryd.prog=true:=by kernel_rfl
theorem FN(os:Os)(args:Array Value):laidMetH Tryd.prog Rows.ownMemoryUptoRow.laid ((World.laidAll Tryd.prog os Rows.ownMemoryUptoRow.laid).forCall (fun _ _=>0) ⟨#[],args,[]⟩).memory:=by
 rw [MakeChecks.laidMetH_plain _ _ _ AB];exact laidMet_laidAll _ AB AB
theorem EM(os:Os){H:Type}(enc:TypeId×Value→H):∃places,DataW.whole enc Tryd.prog ((World.laidAll Tryd.prog os Rows.ownMemoryUptoRow.laid).forCall (fun _ _=>0) ⟨#[],BH,[]⟩).memory Tryd.f3.params.toList Rows.ownMemorySpec.vars false (BH:Array Value).toList 8=some ([.nil, .nil, .agg [.lit (.int .i64 0), .lit (.int .i64 0), .lit (.int .i64 0), .agg [.lit (.int .i64 0), .lit (.int .i64 0), .lit (.int .i64 0), .lit (.int .i64 0), .lit (.int .i64 0), .lit (.int .i64 0), .lit (.int .i64 0), .lit (.int .i64 0), .lit (.int .i64 0), .lit (.int .i64 0), .lit (.int .i64 0), .lit (.int .i64 0), .lit (.int .i64 0), .lit (.int .i64 0), .lit (.int .i64 0), .lit (.int .i64 0), .lit (.int .i64 0), .lit (.int .i64 0), .lit (.int .i64 0), .lit (.int .i64 0), .lit (.int .i64 0), .lit (.int .i64 0), .lit (.int .i64 0), .lit (.int .i64 0), .lit (.int .i64 0), .lit (.int .i64 0), .lit (.int .i64 0), .lit (.int .i64 0), .lit (.int .i64 0), .lit (.int .i64 0), .lit (.int .i64 0), .lit (.int .i64 0), .lit (.int .i64 0), .lit (.int .i64 0), .lit (.int .i64 0), .lit (.int .i64 0), .lit (.int .i64 0), .lit (.int .i64 0), .lit (.int .i64 0), .lit (.int .i64 0), .lit (.int .i64 0), .lit (.int .i64 0), .lit (.int .i64 0), .lit (.int .i64 0), .lit (.int .i64 0), .lit (.int .i64 0), .lit (.int .i64 0), .lit (.int .i64 0), .lit (.int .i64 0), .lit (.int .i64 0), .lit (.int .i64 0), .lit (.int .i64 0), .lit (.int .i64 0), .lit (.int .i64 0), .lit (.int .i64 0), .lit (.int .i64 0), .lit (.int .i64 0), .lit (.int .i64 0), .lit (.int .i64 0), .lit (.int .i64 0), .lit (.int .i64 0), .lit (.int .i64 0), .lit (.int .i64 0), .lit (.int .i64 0)], .agg [.agg [.agg [.lit (.int .i64 0), .lit (.int .i64 0), .lit (.int .i64 0), .lit (.int .i64 0), .lit (.int .i64 0), .lit (.int .i64 0), .lit (.int .i64 0), .lit (.int .i64 0), .lit (.int .i64 0), .lit (.int .i64 0), .lit (.int .i64 0), .lit (.int .i64 0), .lit (.int .i64 0), .lit (.int .i64 0), .lit (.int .i64 0), .lit (.int .i64 0)], .nil], .agg [.agg [.lit (.int .i64 0), .lit (.int .i64 0), .lit (.int .i64 0), .lit (.int .i64 0), .lit (.int .i64 0), .lit (.int .i64 0), .lit (.int .i64 0), .lit (.int .i64 0), .lit (.int .i64 0), .lit (.int .i64 0), .lit (.int .i64 0), .lit (.int .i64 0), .lit (.int .i64 0), .lit (.int .i64 0), .lit (.int .i64 0), .lit (.int .i64 0)], .nil]], .lit (.int .i64 0), .nil]],[],places):=
 ⟨[],by kernel_rfl⟩
theorem Dz(os:Os)(started:os.Started)(H:Type)(enc:TypeId×Value→H)(F:Stop.Interp):
 ReturnsInHanded {} Tryd.checked os 3 .any ((Rows.OpenSpec.upto Rows.ownMemorySpec).preRow enc Tryd.prog Tryd.f3 Rows.ownMemoryUptoRow.domain false Rows.ownMemoryUptoRow.laid) (((Rows.OpenSpec.upto Rows.ownMemorySpec).at F).post enc Tryd.prog Tryd.f3 false true false false):=by
 obtain ⟨places,hx⟩:=EM os enc
 have hok:Input.okWideB Tryd.prog ((World.laidAll Tryd.prog os Rows.ownMemoryUptoRow.laid).forCall (fun _ _=>0) ⟨#[],BH,[]⟩) 3 ⟨#[],BH,[]⟩=true:=by kernel_rfl
 refine returnsInHanded_of_row (C:=Tryd.checked) (s:=Rows.OpenSpec.upto Rows.ownMemorySpec) FO started AB Tryd.func3
  ⟨(World.laidAll Tryd.prog os Rows.ownMemoryUptoRow.laid),fun _ _=>0,⟨#[],BH,[]⟩,World.laidAll_os _ _ _,World.shaped_of_ZipB AB AB,(Input.okWide_of_okWideB (base:=0) hok).1,(Input.okWide_of_okWideB hok).2,
   OpenSpec.preRow_of_cond 8 hx AB (fun k hk=>by cases hk;kernel_rfl) AB (FN os _),by
   simp only [Assume.holds]
   exact ⟨by simp,by simp,by simp,by simp,by simp⟩⟩ ?_
 intro W base args ds gs before hval0 hW _ hk _ hL hsh _
 have hval:∀(j:Nat) t v,Tryd.f3.params[j]? =some t→args[j]? =some v→Value.okWide Tryd.prog W .any base t v:=hval0
 have hW':=hW
 obtain ⟨p,q,hA0,hV,rfl,hfz,hnd⟩:=hW
 have hA:DataW.TrodAll enc Tryd.prog W 0 (fun _=>true) true Tryd.f3.params.toList args.toList ds p:=hA0
 rw [Tryd.params3] at hA hval
 obtain ⟨v0,vs0,d0,ds0,p0,q0,hargs,rfl,rfl,h0,r0⟩:=trodAll_cons hA
 obtain ⟨v1,vs1,d1,ds1,p1,q1,rfl,rfl,rfl,h1,r1⟩:=trodAll_cons r0
 obtain ⟨v2,vs2,d2,ds2,p2,q2,rfl,rfl,rfl,h2,r2⟩:=trodAll_cons r1
 obtain ⟨rfl,rfl,rfl⟩:=trodAll_nil r2
 obtain rfl:args=#[v0,v1,v2]:=by cases args;simp_all
 obtain ⟨rfl,rfl⟩:=trodVars_none hV
 have lt0:∀x∈p0,x.block<W.heap.size:=by obtain ⟨m,hm⟩:=h0;exact DataW.trod_lt m _ _ _ hm
 have lt1:∀x∈p1,x.block<W.heap.size:=by obtain ⟨m,hm⟩:=h1;exact DataW.trod_lt m _ _ _ hm
 have lt2:∀x∈p2,x.block<W.heap.size:=by obtain ⟨m,hm⟩:=h2;exact DataW.trod_lt m _ _ _ hm
 refine (EY W (hval 0 22 v0 rfl rfl) h0 lt0 (hval 1 23 v1 rfl rfl) h1 lt1 (hval 2 32 v2 rfl rfl) h2 lt2 (by have:=hk _ rfl;simpa only [List.append_nil,List.cons_append,List.nil_append] using this) hsh).mono fun e W' ⟨he,bel⟩=>?_
 subst he
 exact ⟨_,rfl,_,_,_,[],_,[],hW',trodAll_mk1 (shut_bool Tryd.underlying4 _),(trodAll_cons_mk (Below.trod BZ AB (of_decide_eq_true AB) h0 bel lt0) (trodAll_cons_mk (Below.trod BZ AB (of_decide_eq_true AB) h1 bel lt1) (trodAll_cons_mk (Below.trod BZ AB (of_decide_eq_true AB) h2 bel lt2) trodAll_mk0))),rfl,bel.frame _,fun h=>by cases h⟩
theorem EX:Rows.OwnMemoryUptoSaid:=
 OpenClaim.holds_of_cond 3 Tryd.f3 rfl rfl rfl rfl rfl rfl rfl ⟨rfl,rfl,rfl,rfl,rfl⟩ rfl rfl rfl rfl rfl AB Tryd.func3 AB
  (of_decide_eq_true AB) (by unfold Func.isWrapper;rw [if_neg (by decide+kernel)];exact ⟨rfl,rfl⟩)
  (fun os started H enc _ F=>by rw [OpenClaim.pre_eq_preRow];exact Dz os started H enc F)
theorem DW(f:FuncId)(fn:Func)(hf:Tryd.pinned.checked.prog.funcNamed "mezzotint/mezzotintkeep.OwnMemory" =some f)(hfn:Tryd.pinned.checked.prog.funcs[f]? =some fn):
 false=Tryd.pinned.checked.prog.looks []∧∀(j:Nat) t,fn.params[j]? =some t→Tryd.pinned.checked.prog.wantsStandIn t=false:=by
 obtain rfl:f=3:=Option.some.inj ((show Tryd.prog.funcNamed "mezzotint/mezzotintkeep.OwnMemory" =some 3 by kernel_rfl).symm.trans hf) |>.symm
 obtain rfl:fn=Tryd.f3:=(Option.some.inj (Tryd.func3.symm.trans hfn)).symm
 refine ⟨by kernel_rfl,fun j t ht=>?_⟩
 rw [Tryd.params3] at ht
 have hm:t∈([22,23,32]:List Nat):=by simpa using Array.mem_of_getElem? ht
 have hall:(([22,23,32]:List Nat).all fun u=>!Tryd.prog.wantsStandIn u)=true:=by kernel_rfl
 exact (show Tryd.prog.wantsStandIn t=false by simpa using List.all_eq_true.1 hall t hm)
theorem OwnMemory_proved:Rows.OwnMemoryUptoCardSaid:=
 Claim7.holds_tied_plain_at .later [] _ _ _ _ EX (fun _ h=>by cases h) AB (fun _ h=>by cases h) ownMemoryUpto_row_tie rfl ⟨rfl,rfl⟩ AB rfl DW AB
end Go.Proofs.YtkcbhcajfcfmmaaDoor
