/- What the laws FrameThree need, part 5. -/
import Derived.Test.YtohacgmhmbijmaaGreatDoorBaseTZ2
import Derived.Test.YtohacgmhmbijmaaGreatDoorBaseTZ3
import Derived.Test.YtohacgmhmbijmaaGreatDoorBaseTZ4
import Derived.WideKeyRuns
namespace Go.Proofs.YtohacgmhmbijmaaGreatDoor
attribute [local irreducible] Region.wanted
open Go.RowKit
set_option linter.unusedVariables false
set_option maxRecDepth 100000
set_option maxHeartbeats 8000000
def mp{K:Type}[DecidableEq K](enc:K→Value)(g:Nat)(f:K→Option Value):Au where
 holds w fp:=fp=[g]∧GX enc w g f
 lt:=fun ⟨e,h⟩ b hb=>by rw [e,List.mem_singleton] at hb;rw [hb];exact h.lt
 loc:=fun ⟨e,h⟩ hs=>⟨e,h.of_heap (hs _ (by rw [e];simp))⟩
def pk(x:Int×Int):Value:= .agg #[.int .i64 x.1, .int .i64 x.2]
theorem Ob(k:Int×Int):Instr.sameBits 10000 (pk k) (pk k)=true:=by
 unfold pk
 rw [show (10000:Nat)=9999+1 from rfl,Instr.sameBits]
 simp [Instr.sameBits.eq_2]
theorem FZ{P:Program}{kt e:TypeId}(ht:P.underlying kt=some (.array 2 e))(he:P.underlying e=some (.int .i64))(hs:(P.info? e).map (·.size)=some 1):Eu P kt pk where
 check w b k:=by
  have px:∀i (v:Value),(#[Value.int .i64 k.1, .int .i64 k.2]:Array Value)[i]? =some v→(part e #[Value.int .i64 k.1, .int .i64 k.2] (i*1)).run P w= .ok v w:=fun i v hv=>by
   have e3:(isAgg e).run P w= .ok false w:=by simp [isAgg,run_underlying he]
   rw [Ek,e3,Nat.mul_one,Result.andThen_ok]
   simp only [Bool.false_eq_true,if_false,hv]
  have p0:=px 0 (.int .i64 k.1) rfl
  have p1:=px 1 (.int .i64 k.2) rfl
  have ck:∀z:Int,(Instr.checkKey b 9999 e (.int .i64 z)).run P w= .ok () w:=fun z=>by
   rw [show (9999:Nat)=9998+1 from rfl,Instr.checkKey]
   simp [run_underlying he]
  have hsz:=BZ (P:=P) w hs
  unfold pk
  rw [show (10000:Nat)=9999+1 from rfl,Instr.checkKey]
  simp only [Sem.run_bind,run_underlying ht,Result.andThen_ok,Std.Legacy.Range.forIn_eq_forIn_range',Std.Legacy.Range.size,Nat.sub_zero,Nat.add_sub_cancel,Nat.div_one]
  rw [show List.range' 0 2 1=[0,1] from rfl]
  simp [hsz,p0,p1,ck]
 find w k l:=by
  have key:∀(l:List ((Int×Int)×Value×Nat)) i,(Instr.findAsking kt (pk k) (l.map (Cq pk)) i).run P w= .ok (BH k l i) w:=by
   intro l
   induction l with
   | nil=>intro i;rfl
   | cons x l ih=>
     intro i
     have e1:=Fg (P:=P) w (Op.maxDepth-2) kt e 2 ht he (fun w=>BZ w hs) [k.1,k.2] [x.1.1,x.1.2] rfl rfl
     have e2:(Op.equal kt (pk k) (pk x.1)).run P w= .ok ([k.1,k.2]==[x.1.1,x.1.2]) w:=e1
     simp only [List.map_cons,Instr.findAsking,BH,Cq,Sem.run_bind,e2,Result.andThen_ok]
     by_cases hx:k=x.1
     ·have:([k.1,k.2]==[x.1.1,x.1.2])=true:=by rw [hx];simp
      rw [this];simp [hx]
     have:([k.1,k.2]==[x.1.1,x.1.2])=false:=by
      rw [beq_eq_false_iff_ne];intro h;injection h with h1 h2;injection h2 with h2 _
      exact hx (Prod.ext h1 h2)
     rw [this];simp only [hx,Bool.false_eq_true,if_false]
     exact ih (i+1)
  exact (run_findKey_eq (P:=P) (w:=w) (k:=kt) (by rw [ht]) (pk k) _).trans (key l 0)
 same:=Ob
section
variable{K:Type}[DecidableEq K]{P:Program}{enc:K→Value}{W w:World}{rs rs':List Au}{Q:Exit→Act→World→Prop}{K':Act→World→Prop}{o:Oper}{a:Act}
theorem St.mp{g:Nat}{f:K→Option Value}(h:St W w rs)(p:AT (Go.Proofs.YtohacgmhmbijmaaGreatDoor.mp enc g f) rs rs'):GX enc w g f:=by
 obtain ⟨_,fp,_,_,f1,f2,e,⟨e1,h4⟩,_⟩:=h.pull p
 exact h4
theorem FD(enc:K→Value)(hS:St W w rs)(t:TypeId)(ho:o.op= .makeMap t none)
 (h:∀g w',St W w' (Go.Proofs.YtohacgmhmbijmaaGreatDoor.mp enc g (fun _=>none)::rs)→K' (a.put o.dst (.map (some g))) w'):o.wp P a w K' Q:=by
 have hE:Al w (w.alloc (.map #[] 0)):=(Al.refl w).alloc _
 have hst:St w (w.alloc (.map #[] 0)) [Go.Proofs.YtohacgmhmbijmaaGreatDoor.mp enc w.heap.size (fun _=>none)]:=
  ⟨hE,[w.heap.size],by simp,by simp,[w.heap.size],[],rfl,⟨rfl,GX.new w⟩,rfl⟩
 have hh:=h _ _ (hS.call1 hst)
 unfold Oper.wp execOp
 simp only [ho]
 exact hh
theorem Ko(hS:St W w rs)(mt:TypeId)(x i:Operand)(ho:o.op= .lookup mt x i false)(b:Nat)(hx:a.eval x= .map (some b))(k:K)(hk:a.eval i=enc k){kt et:TypeId}(hm:P.underlying mt=some (.map kt et))(law:Eu P kt enc)(z:Value)(hz:∀w,(zeroValue et).run P w= .ok z w)
 (f:K→Option Value) (hp:AT (Go.Proofs.YtohacgmhmbijmaaGreatDoor.mp enc b f) rs rs') (v:Value) (hf:f k=some v) (h:K' (a.put o.dst v) w):o.wp P a w K' Q:=by
 have hl:=(hS.mp hp).lookup hm law k false hz
 unfold Oper.wp execOp
 simp only [ho,hx,hk,Sem.run_bind,hl,hf,Result.andThen_ok,Sem.run_pure]
 exact h
theorem Kn(hS:St W w rs)(mt:TypeId)(x i:Operand)(ho:o.op= .lookup mt x i false)(b:Nat)(hx:a.eval x= .map (some b))(k:K)(hk:a.eval i=enc k){kt et:TypeId}(hm:P.underlying mt=some (.map kt et))(law:Eu P kt enc)(z:Value)(hz:∀w,(zeroValue et).run P w= .ok z w)
 (f:K→Option Value) (hp:AT (Go.Proofs.YtohacgmhmbijmaaGreatDoor.mp enc b f) rs rs') (hf:f k=none) (h:K' (a.put o.dst z) w):o.wp P a w K' Q:=by
 have hl:=(hS.mp hp).lookup hm law k false hz
 unfold Oper.wp execOp
 simp only [ho,hx,hk,Sem.run_bind,hl,hf,Result.andThen_ok,Sem.run_pure]
 exact h
theorem I9(hS:St W w rs)(mt:TypeId)(x i:Operand)(ho:o.op= .lookup mt x i true)(b:Nat)(hx:a.eval x= .map (some b))(k:K)(hk:a.eval i=enc k){kt et:TypeId}(hm:P.underlying mt=some (.map kt et))(law:Eu P kt enc)(z:Value)(hz:∀w,(zeroValue et).run P w= .ok z w)
 (f:K→Option Value) (hp:AT (Go.Proofs.YtohacgmhmbijmaaGreatDoor.mp enc b f) rs rs') (v:Value) (hf:f k=some v) (h:K' (a.put o.dst (.tuple #[v, .bool true])) w):o.wp P a w K' Q:=by
 have hl:=(hS.mp hp).lookup hm law k true hz
 unfold Oper.wp execOp
 simp only [ho,hx,hk,Sem.run_bind,hl,hf,Result.andThen_ok,Sem.run_pure]
 exact h
theorem I8(hS:St W w rs)(mt:TypeId)(x i:Operand)(ho:o.op= .lookup mt x i true)(b:Nat)(hx:a.eval x= .map (some b))(k:K)(hk:a.eval i=enc k){kt et:TypeId}(hm:P.underlying mt=some (.map kt et))(law:Eu P kt enc)(z:Value)(hz:∀w,(zeroValue et).run P w= .ok z w)
 (f:K→Option Value) (hp:AT (Go.Proofs.YtohacgmhmbijmaaGreatDoor.mp enc b f) rs rs') (hf:f k=none) (h:K' (a.put o.dst (.tuple #[z, .bool false])) w):o.wp P a w K' Q:=by
 have hl:=(hS.mp hp).lookup hm law k true hz
 unfold Oper.wp execOp
 simp only [ho,hx,hk,Sem.run_bind,hl,hf,Result.andThen_ok,Sem.run_pure]
 exact h
theorem Dt(hS:St W w rs)(mt:TypeId)(x i y:Operand)(ho:o.op= .mapUpdate mt x i y)(b:Nat)(hx:a.eval x= .map (some b))(k:K)(hk:a.eval i=enc k){kt et:TypeId}(hm:P.underlying mt=some (.map kt et))(law:Eu P kt enc)
 (f:K→Option Value) (hp:AT (Go.Proofs.YtohacgmhmbijmaaGreatDoor.mp enc b f) rs rs') (v:Value) (hv:DI (a.eval y) v) (hd:o.dst=none) (h:∀w',St W w' (Go.Proofs.YtohacgmhmbijmaaGreatDoor.mp enc b (fun j=>if j=k then some v else f j)::rs')→K' a w'):o.wp P a w K' Q:=by
 obtain ⟨w',hrun,h1,h2,h3⟩:=(hS.mp hp).update hm law k (a.eval y)
 rw [hv.eq] at h1
 have hE0:Al ({w with heap:=#[]}:World) w:=⟨rfl,rfl,rfl,by simp,fun i hi=>by simp at hi⟩
 have hE1:=h2 _ (by simp) hE0
 have hlt':=h1.lt
 have hsz:w.heap.size≤w'.heap.size:=by
  by_cases hc:w.heap.size≤b+1
  ·omega
  have e1:=h3 (w.heap.size-1) (by omega)
  have e2:w.heap[w.heap.size-1]? =some (w.heap[w.heap.size-1]'(by omega)):=Array.getElem?_eq_getElem (by omega)
  rw [e2] at e1
  have:=(Array.getElem?_eq_some_iff.1 e1).1
  omega
 have hO:EK [b] w w':=⟨hE1.os,hE1.tape,hE1.output,hsz,fun i _ hi=>h3 i (by simpa using hi)⟩
 have hh:=h w' (by
  refine St.change (rs1:=[Go.Proofs.YtohacgmhmbijmaaGreatDoor.mp enc b (fun j=>if j=k then some v else f j)]) (hS.pull hp) fun f1 hf1 _ _=>?_
  obtain ⟨rfl,_⟩:=hf1
  exact ⟨[b],⟨[b],[],rfl,⟨rfl,h1⟩,rfl⟩,by simp,fun c hc=> .inl hc,hO⟩)
 unfold Oper.wp execOp
 simp only [ho,hx,hk,Sem.run_bind,hrun,Result.andThen_ok,Sem.run_pure]
 show K' (a.put o.dst undef) _
 rw [hd]
 exact hh
end
end Go.Proofs.YtohacgmhmbijmaaGreatDoor
namespace Go.Proofs.YtohacgmhmbijmaaGreatDoor
attribute [local irreducible] Region.wanted
set_option linter.unusedVariables false
set_option maxRecDepth 100000
set_option maxHeartbeats 8000000
theorem dJ(w:World):(zeroValue 32).run Tryz.prog w= .ok (.agg (AI [.ints (List.replicate 16 0), .val (.slice none 0 0)]).toArray) w:=by first|exact Tryz.zeroValue32 w|kernel_rfl
theorem dK(w:World):(zeroValue 34).run Tryz.prog w= .ok (.agg (AI [.ints (List.replicate 16 0), .val (.slice none 0 0), .ints (List.replicate 16 0), .val (.slice none 0 0)]).toArray) w:=by first|exact Tryz.zeroValue34 w|kernel_rfl
theorem aQ(w:World):(zeroValue 37).run Tryz.prog w= .ok (.agg (AI [.val (.int .i64 0), .val (.int .i64 0), .val (.int .i64 0), .ints (List.replicate 64 0), .ints (List.replicate 16 0), .val (.slice none 0 0), .ints (List.replicate 16 0), .val (.slice none 0 0), .val (.int .i64 0), .val (.slice none 0 0)]).toArray) w:=by first|exact Tryz.zeroValue37 w|kernel_rfl
end Go.Proofs.YtohacgmhmbijmaaGreatDoor
namespace Go.Proofs.YtohacgmhmbijmaaGreatDoor
attribute [local irreducible] Region.wanted
open Go.RowKit
set_option linter.unusedVariables false
set_option maxRecDepth 100000
set_option maxHeartbeats 8000000
theorem Nd(m0:Int)(m1:Int)(m2:Int)(w:World):(Instr.build 197 #[(0, .int .i64 m0),(1, .int .i64 m1),(2, .int .i64 m2)]).run Tryz.prog w= .ok (.agg #[.int .i64 m0, .int .i64 m1, .int .i64 m2]) w:=by kernel_rfl
abbrev tv(C:List Int)(v:Value):Value:= .agg (AI [.ints C, .val v]).toArray
theorem MH(C:List Int)(k:Nat)(h:0≤AK C k):AK C k=((cc C k:Nat):Int):=by unfold cc;omega
theorem Ll{a:Value}{x y:Bool}(h:x=y):Ending.returned (.tuple #[a, .bool x])= .returned (.tuple #[a, .bool y]):=by rw [h]
theorem Lw(w0:World)(C:List Int)(v:Value)(hC:Ap C 16)(h:I7 C=true):Calls Tryz.prog 107 #[tv C v] w0 fun e w=>e= .returned (.tuple #[.int .i64 (sm (cc C) 16:Nat), .bool true])∧Al w0 w:=by
 obtain ⟨hb,h16⟩:=(Dx C).1 h
 have HB:=AD hb
 clear hb h
 have hS:=St.start w0
 go_enter Tryz.func107,Tryz.ntmps107
 repeat' (first
  | refine X0 ?_|refine WF ?_|refine ZX 1 ?_;clear hS;intro g1 w hS|refine WJ ?_|refine AG ?_;go_step|fail)
 go_loopg [4,9] 16 (fun gk av kv w=>∃k:Nat,gk+k=16∧kv= .int .i64 k∧av= .int .i64 (sm (cc C) k:Nat)∧sm (cc C) k≤256*k∧St w0 w [])
 case atStart=>exact ⟨0,rfl,rfl,rfl,by simp [sm],hS.sub AV⟩
 case round=>
  clear hS
  obtain ⟨k,hk,rfl,rfl,hs,hS⟩:=hrel
  by_cases hlt:k<16
  ·have hx:=HB.out k hlt
   have hsm:=AD (show sm (cc C) (k+1)=sm (cc C) k+cc C k from rfl)
   have hci:=MH C k hx.1
   obtain ⟨y,hy⟩:∃y,cc C k=y:=⟨_,rfl⟩
   rw [hy] at hci hsm
   obtain ⟨x,hxe⟩:∃x,AK C k=x:=⟨_,rfl⟩
   have HX:=AD hxe
   rw [hxe] at hci hx
   subst hci
   clear hxe hy
   repeat' (first
    | refine aZ 11 ?_|refine X0 ?_|refine Gz ?_|refine EN 13 ?_ ?_<;>intro hB<;>(try exact AW)<;>go_step|refine X2 ?_|refine Gv ?_|refine X7 ?_|refine AG ?_;go_step|fail)
   go_roundg (gk-1)
   case measure=>omega
   case rel=>exact ⟨k+1,by omega,by go_num,by rw [hsm.out];go_num,by rw [hsm.out];omega,hS⟩
  obtain rfl:k=16:=by omega
  repeat' (first
   | refine X0 ?_|refine X2 ?_|refine YB ?_|refine AG ?_;go_step|fail)
  refine AM (xs:=[_,_]) rfl (.cons (AC.tmp rfl) (.cons (AC.tmp rfl) (.nil))) (by simp) rfl ?_
  exact ⟨Ll (decide_eq_true (by omega)),hS.1⟩
theorem VM(w0:World)(C:List Int)(v:Value)(hC:Ap C 16)(h:I7 C=false):Calls Tryz.prog 107 #[tv C v] w0 fun e w=>∃z,e= .returned (.tuple #[.int .i64 z, .bool false])∧Al w0 w:=by
 have hb:¬((∀k,k<16→0≤AK C k∧AK C k≤256)∧sm (cc C) 16≤256):=by rw [←Dx,h];simp
 have HB:=AD hb
 clear hb h
 have hS:=St.start w0
 go_enter Tryz.func107,Tryz.ntmps107
 repeat' (first
  | refine X0 ?_|refine WF ?_|refine ZX 1 ?_;clear hS;intro g1 w hS|refine WJ ?_|refine AG ?_;go_step|fail)
 go_loopg [4,9] 16 (fun gk av kv w=>∃k:Nat,gk+k=16∧kv= .int .i64 k∧av= .int .i64 (sm (cc C) k:Nat)∧Hid (∀j,j<k→0≤AK C j∧AK C j≤256)∧sm (cc C) k≤256*k∧St w0 w [])
 case atStart=>exact ⟨0,rfl,rfl,rfl,AD (fun j hj=>absurd hj (by omega)),by simp [sm],hS.sub AV⟩
 case round=>
  clear hS
  obtain ⟨k,hk,rfl,rfl,HA,hs,hS⟩:=hrel
  by_cases hlt:k<16
  ·have hsm:=AD (show sm (cc C) (k+1)=sm (cc C) k+cc C k from rfl)
   by_cases hx:0≤AK C k∧AK C k≤256
   ·have hci:=MH C k hx.1
    have HA2:Hid (∀j,j<k+1→0≤AK C j∧AK C j≤256):=AD fun j hj=>by
     by_cases hjk:j<k
     ·exact HA.out j hjk
     obtain rfl:j=k:=by omega
     exact hx
    obtain ⟨y,hy⟩:∃y,cc C k=y:=⟨_,rfl⟩
    rw [hy] at hci hsm
    obtain ⟨x,hxe⟩:∃x,AK C k=x:=⟨_,rfl⟩
    have HX:=AD hxe
    rw [hxe] at hci hx
    subst hci
    clear hxe hy
    repeat' (first
     | refine aZ 11 ?_|refine X0 ?_|refine Gz ?_|refine EN 13 ?_ ?_<;>intro hB<;>(try exact AW)<;>go_step|refine X2 ?_|refine Gv ?_|refine X7 ?_|refine AG ?_;go_step|fail)
    go_roundg (gk-1)
    case measure=>omega
    case rel=>exact ⟨k+1,by omega,by go_num,by rw [hsm.out];go_num,HA2,by rw [hsm.out];omega,hS⟩
   obtain ⟨x,hxe⟩:∃x,AK C k=x:=⟨_,rfl⟩
   have HX:=AD hxe
   rw [hxe] at hx
   have hx2:x<0∨256<x:=by omega
   clear hxe hx
   repeat' (first
    | (refine AS 11 ?_);refine Ak (.int .i64 x) (V.as (V.indexIv Tryz.underlying29 Tryz.underlying3 EL rfl rfl hC Bq.cast (by omega)) HX.out) AA ?_;go_step|go_big_skip|refine X0 ?_|refine IL ?_|refine EN 13 ?_ ?_<;>intro hB<;>(try exact AW)<;>go_step|refine X2 ?_|refine Gv ?_|refine AG ?_;go_step|fail)
   all_goals
    refine AM (xs:=[_,_]) rfl (.cons (AC.tmp rfl) (.cons (AC.tmp rfl) (.nil))) (by simp) rfl ?_
    exact ⟨_,rfl,hS.1⟩
  obtain rfl:k=16:=by omega
  have hgt:256<sm (cc C) 16:=by
   have:=HB.out
   have h2:=HA.out
   by_cases h3:sm (cc C) 16≤256
   ·exact absurd ⟨h2,h3⟩ this
   omega
  repeat' (first
   | refine X0 ?_|refine X2 ?_|refine YB ?_|refine AG ?_;go_step|fail)
  refine AM (xs:=[_,_]) rfl (.cons (AC.tmp rfl) (.cons (AC.tmp rfl) (.nil))) (by simp) rfl ?_
  exact ⟨_,Ll (decide_eq_false (by omega)),hS.1⟩
def LD(l:List Int)(s:Int):Option Value:=if s∈l then some (.bool true) else none
theorem SH(S:List Int)(k:Nat)(hk:k<S.length):(fun j=>if j=AK S k then some (Value.bool true) else LD (S.take k) j)=LD (S.take (k+1)):=by
 funext j
 have e:S.take (k+1)=S.take k++[AK S k]:=by rw [List.take_add_one,Cs S k hk];rfl
 unfold LD
 rw [e]
 by_cases h:j=AK S k
 ·simp [h]
 simp [h]
theorem XE(S:List Int)(k:Nat)(h:k<S.length):AK S k∈S:=List.mem_of_getElem? (Cs S k h)
theorem Pv(S:List Int)(k:Nat)(hk:k<S.length):(S.take (k+1)).Nodup↔(S.take k).Nodup∧AK S k∉S.take k:=by
 have e:S.take (k+1)=S.take k++[AK S k]:=by rw [List.take_add_one,Cs S k hk];rfl
 rw [e,List.nodup_append]
 constructor
 ·intro h;exact ⟨h.1,fun hm=>h.2.2 _ hm _ (by simp) rfl⟩
 intro h;refine ⟨h.1,by simp,fun a ha b hb=>?_⟩
 simp only [List.mem_singleton] at hb
 subst hb
 intro e;subst e;exact h.2 ha
theorem CT(w0:World)(C S:List Int)(ad:Option Addr)(n c:Nat)(hC:Ap C 16)(hv:Sl w0 1 (.slice ad n c) n (S.map (Value.int .i64)))(hn:n≤9223372036854775807):
 Calls Tryz.prog 73 #[tv C (.slice ad n c)] w0 fun e w=>e= .returned (.int .i64 (BA C S))∧Al w0 w:=by
 have hSl:S.length=n:=by have:=hv.1;simpa using this
 have HSl:=AD hSl
 clear hSl
 have hS:=St.start w0
 by_cases ht:I7 C=true
 case neg=>
  have hE:=AD (show BA C S=4 by unfold BA;rw [if_neg (fun h=>ht h.1)])
  have ht2:=AD (show I7 C=false by simpa using ht)
  clear ht
  go_enter Tryz.func73,Tryz.ntmps73
  repeat' (first
   | (refine A3 107 ?_);refine A4 AA Tryz.call107 (VM _ C _ hC ht2.out) ?_;rintro e w ⟨z,rfl,hE2⟩;replace hS:=hS.ext hE2;clear hE2;refine Ae ?_;go_step|go_skip|refine X0 ?_|refine FJ ?_|refine Jk 18 ?_ ?_<;>intro hB<;>(try exact JX hB)<;>go_step|refine X6 ?_|refine ZX 1 ?_;clear hS;intro g1 w hS|refine LU ?_|refine AG ?_;go_step|fail)
  refine BW rfl (AC.tmp rfl) rfl ?_
  exact ⟨(by rw [hE.out];first|done|rfl),hS.1⟩
 have HT:=AD ht
 clear ht
 by_cases hs:sm (cc C) 16=n
 case neg=>
  have hE:=AD (show BA C S=4 by unfold BA;rw [if_neg (fun h=>hs (h.2.trans HSl.out))])
  obtain ⟨t,ht⟩:∃t,sm (cc C) 16=t:=⟨_,rfl⟩
  rw [ht] at hs
  have HT2:=AD ht
  clear ht
  go_enter Tryz.func73,Tryz.ntmps73
  repeat' (first
   | (refine A3 107 ?_);refine A4 AA Tryz.call107 (Lw _ C _ hC HT.out) ?_;rintro e w ⟨rfl,hE2⟩;rw [HT2.out];replace hS:=hS.ext hE2;clear hE2;refine Ae ?_;go_step|refine X0 ?_|refine Gz ?_|refine Jk 18 ?_ ?_<;>intro hB<;>(try exact JX hB)<;>go_step|refine X6 ?_|refine ZD ?_|refine TV ?_|refine IJ ?_|refine ZX 1 ?_;clear hS;intro g1 w hS|refine LU ?_|refine WK ?_|refine AG ?_;go_step|fail)
  refine BW rfl (AC.tmp rfl) rfl ?_
  exact ⟨(by rw [hE.out];first|done|rfl),hS.1⟩
 have h256:n≤256:=by
  have:=(Dx C).1 HT.out
  omega
 have HS2:=AD hs
 have HE:=AD (show BA C S=if Ol S then if S.Nodup∧OY (cc C)=true then 0 else 4 else 1 by unfold BA;rw [if_pos ⟨HT.out,hs.trans HSl.out.symm⟩])
 clear hs
 go_enter Tryz.func73,Tryz.ntmps73
 repeat' (first
  | (refine A3 107 ?_);refine A4 AA Tryz.call107 (Lw _ C _ hC HT.out) ?_;rintro e w ⟨rfl,hE2⟩;rw [HS2.out];replace hS:=hS.ext hE2;clear hE2;refine Ae ?_;go_step|refine X0 ?_|refine Gz ?_|refine Jk 18 ?_ ?_<;>intro hB<;>(try exact JX hB)<;>go_step|refine X6 ?_|refine ZD ?_|refine TV ?_|refine IJ ?_|refine ZX 1 ?_;clear hS;intro g1 w hS|refine LU ?_|refine WK ?_|(refine AS 26 ?_);(refine Ag ?_;apply FD (o:=⟨some 26,_,_,_,_,_⟩) ik hS 167 rfl;clear hS;intro g26 w hS;refine AB ?_;go_step)|refine AG ?_;go_step|fail)
 go_loopg [6,30] n (fun gk bv kv w=>∃(k:Nat) (b:Bool),gk+k=n∧kv= .int .i64 k∧bv= .bool b∧Hid (b=true↔¬(S.take k).Nodup)∧Hid (∀j,j<k→0≤AK S j∧AK S j<256)∧St w0 w [mp ik g26 (LD (S.take k)),prt g1 [.ints C, .val (.slice ad n c)]])
 case atStart=>exact ⟨0,false,rfl,rfl,rfl,AD (by simp),AD (fun j hj=>absurd hj (by omega)),(by rw [show LD (S.take 0)=fun _=>none from (by funext s;simp [LD])];exact hS)⟩
 case round=>
  clear hS
  obtain ⟨k,b,hk,rfl,rfl,HB,HR,hS⟩:=hrel
  by_cases hlt:k<n
  ·have hk2:=AD (show k<S.length by rw [HSl.out];exact hlt)
   have HF:=AD (SH S k hk2.out)
   have HN:=AD (Pv S k hk2.out)
   obtain ⟨x,hx⟩:∃x,AK S k=x:=⟨_,rfl⟩
   have HX:=AD hx
   rw [hx] at HF HN
   clear hx
   by_cases hr:0≤x∧x<256
   ·have HR2:Hid (∀j,j<k+1→0≤AK S j∧AK S j<256):=AD fun j hj=>by
     by_cases hjk:j<k
     ·exact HR.out j hjk
     obtain rfl:j=k:=by omega
     rw [HX.out];exact hr
    by_cases hm:x∈S.take k
    ·have hf:LD (S.take k) x=some (.bool true):=by rw [LD,if_pos hm]
     have HB2:Hid (true=true↔¬(S.take (k+1)).Nodup):=AD (by rw [HN.out];simp [hm])
     clear HN hm
     cases b
     all_goals
      repeat' (first
       | (refine AS 32 ?_);refine FF hv Tryz.underlying30 EL rfl rfl Bq.cast (by omega) AA ?_;rw [HX.out];intro b32 o32 hc32;go_step|go_big_skip|refine X0 ?_|refine IL ?_|refine EN 35 ?_ ?_<;>intro hB<;>(try exact AW)<;>go_step|refine X2 ?_|refine WE ?_|refine X7 ?_|refine YG ?_|(refine AS 44 ?_);(refine Ag ?_;apply Ko (enc:=ik) hS 167 _ _ rfl _ rfl _ rfl Tryz.underlying167 (CK Tryz.underlying3) (.bool false) (fun w=>Tryz.zeroValue4 w) _;(case hp=>exact AJ);(case hf=>with_reducible assumption);refine AB ?_;go_step)|refine bK ?_;clear hS;intro w hS|refine AG ?_;go_step|fail)
      go_roundg (gk-1)
      case measure=>omega
      case rel=>exact ⟨k+1,true,by omega,by go_num,rfl,HB2,HR2,by rw [←HF.out];exact hS.sub AV⟩
    have hf:LD (S.take k) x=none:=by rw [LD,if_neg hm]
    have HB2:Hid (b=true↔¬(S.take (k+1)).Nodup):=AD (by rw [HN.out,HB.out];simp [hm])
    clear HN hm
    cases b
    all_goals
     repeat' (first
      | (refine AS 32 ?_);refine FF hv Tryz.underlying30 EL rfl rfl Bq.cast (by omega) AA ?_;rw [HX.out];intro b32 o32 hc32;go_step|go_big_skip|refine X0 ?_|refine IL ?_|refine EN 35 ?_ ?_<;>intro hB<;>(try exact AW)<;>go_step|refine X2 ?_|refine WE ?_|refine X7 ?_|refine YG ?_|(refine AS 44 ?_);(refine Ag ?_;apply Kn (enc:=ik) hS 167 _ _ rfl _ rfl _ rfl Tryz.underlying167 (CK Tryz.underlying3) (.bool false) (fun w=>Tryz.zeroValue4 w) _;(case hp=>exact AJ);(case hf=>with_reducible assumption);refine AB ?_;go_step)|refine bK ?_;clear hS;intro w hS|refine AG ?_;go_step|fail)
     go_roundg (gk-1)
     case measure=>omega
     case rel=>exact ⟨k+1,_,by omega,by go_num,rfl,HB2,HR2,by rw [←HF.out];exact hS.sub AV⟩
   have hE4:Hid (BA C S=1):=AD (by
    rw [HE.out,if_neg]
    intro h
    have:=List.all_eq_true.1 h x (by rw [←HX.out];exact XE S k hk2.out)
    simp at this;omega)
   clear HF HN
   have hr2:x<0∨256≤x:=by omega
   clear hr
   repeat' (first
    | (refine AS 32 ?_);refine FF hv Tryz.underlying30 EL rfl rfl Bq.cast (by omega) AA ?_;rw [HX.out];intro b32 o32 hc32;go_step|go_big_skip|refine X0 ?_|refine IL ?_|refine EN 35 ?_ ?_<;>intro hB<;>(try exact AW)<;>go_step|refine X2 ?_|refine WE ?_|refine YG ?_|refine AG ?_;go_step|fail)
   all_goals
    refine BW rfl (AC.tmp rfl) rfl ?_
    exact ⟨(by rw [hE4.out];first|done|rfl),hS.1⟩
  obtain rfl:k=n:=by omega
  have hall:Ol S=true:=by
   rw [Ol,List.all_eq_true]
   intro s hs
   obtain ⟨j,hj,rfl⟩:=List.getElem_of_mem hs
   have:=HR.out j (by rw [←HSl.out];exact hj)
   simp [AK,List.getD,hj] at this
   simpa using this
  have htk:S.take k=S:=by rw [←HSl.out];exact List.take_length
  have HB3:Hid (b=true↔¬S.Nodup):=AD (by have:=HB.out;rwa [htk] at this)
  have HE3:Hid (BA C S=if S.Nodup∧OY (cc C)=true then 0 else 4):=AD (by rw [HE.out,if_pos hall])
  have HCp:=AD ((Dx C).1 HT.out).1
  clear hall htk HB HE HR
  repeat' (first
   | refine X0 ?_|refine X2 ?_|refine WF ?_|refine WJ ?_|refine AG ?_;go_step|fail)
  go_loopg [9,51] 16 (fun gk nv kv w=>∃(i:Nat),gk+i=16∧kv= .int .i64 i∧nv= .int .i64 (nx (cc C) i:Nat)∧nx (cc C) i<2^i∧Hid (∀j,j<i→nx (cc C) (j+1)<2^(j+1))∧Hid (0<i→b=false)∧St w0 w [])
  case atStart=>exact ⟨0,rfl,rfl,rfl,by simp [nx],AD (fun j hj=>absurd hj (by omega)),AD (fun h=>absurd h (by omega)),hS.sub AV⟩
  case round=>
   clear hS
   obtain ⟨i,hi,rfl,rfl,hlt2,HA,HZ,hS⟩:=hrel
   by_cases hlt:i<16
   ·have hx:=HCp.out i hlt
    have hci:=MH C i hx.1
    have HNx:=AD (show nx (cc C) (i+1)=2*nx (cc C) i+cc C i from rfl)
    obtain ⟨y,hy⟩:∃y,cc C i=y:=⟨_,rfl⟩
    rw [hy] at hci HNx
    have HX:=AD hci
    have hy2:y≤256:=by omega
    obtain ⟨p,hp⟩:∃p,p=2^i:=⟨_,rfl⟩
    have hp2:p≤32768:=by rw [hp];exact Nat.pow_le_pow_right (n:=2) (j:=15) (by omega) (by omega)
    obtain ⟨z,hz⟩:∃z,nx (cc C) i=z:=⟨_,rfl⟩
    rw [←hp] at hlt2
    have HP:Hid ((2:Int)^(i+1)=((2*p:Nat):Int)):=AD (by rw [hp,Int.pow_succ];push_cast;omega)
    have HP2:Hid (2^(i+1)=2*p):=AD (by rw [hp,Nat.pow_succ];omega)
    rw [hz] at hlt2 HNx⊢
    clear hci hy hp hz hx
    by_cases hbad:b=true∨2*p≤2*z+y
    ·have hE4:Hid (BA C S=4):=AD (by
      rw [HE3.out,if_neg]
      rintro ⟨h1,h2⟩
      rcases hbad with h|h
      ·exact (HB3.out.1 h) h1
      have:=(F7 _).1 h2 i hlt
      rw [HNx.out,HP2.out] at this;omega)
     have hbad2:b=false→2*p≤2*z+y:=fun h=>by
      rcases hbad with h'|h'
      ·rw [h] at h';cases h'
      exact h'
     clear hbad
     cases b
     ·replace hbad2:=hbad2 rfl
      repeat' (first
       | refine aZ 54 ?_|refine ZL 56 ?_|refine ZK 58 ?_|(refine AS 64 ?_);(refine Ak (.int _ (((2*p:Nat):Int))) (V.as (V.shl1 rfl rfl BI (by omega)) (by exact HP.out)) (by kernel_rfl) ?_;go_step)|refine X0 ?_|refine Gz ?_|refine X2 ?_|refine X7 ?_|refine WW ?_|refine Gv ?_|refine AG ?_;go_step|fail)
      refine BW rfl (AC.tmp rfl) rfl ?_
      exact ⟨(by rw [hE4.out];first|done|rfl),hS.1⟩
     clear hbad2
     repeat' (first
      | refine aZ 54 ?_|refine ZL 56 ?_|refine ZK 58 ?_|go_big_skip|refine X0 ?_|refine FJ ?_|refine X2 ?_|refine AG ?_;go_step|fail)
     refine BW rfl (AC.tmp rfl) rfl ?_
     exact ⟨(by rw [hE4.out];first|done|rfl),hS.1⟩
    obtain rfl:b=false:=by cases b<;>simp_all
    have hgood:2*z+y<2*p:=by
     by_cases h:2*p≤2*z+y
     ·exact absurd (.inr h) hbad
     omega
    have HA2:Hid (∀j,j<i+1→nx (cc C) (j+1)<2^(j+1)):=AD fun j hj=>by
     by_cases hji:j<i
     ·exact HA.out j hji
     obtain rfl:j=i:=by omega
     rw [HNx.out,HP2.out];exact hgood
    clear hbad
    repeat' (first
     | refine aZ 54 ?_|refine ZL 56 ?_|refine ZK 58 ?_|(refine AS 64 ?_);(refine Ak (.int _ (((2*p:Nat):Int))) (V.as (V.shl1 rfl rfl BI (by omega)) (by exact HP.out)) (by kernel_rfl) ?_;go_step)|refine X0 ?_|refine Gz ?_|refine X2 ?_|refine X7 ?_|refine WW ?_|refine Gv ?_|refine AG ?_;go_step|fail)
    go_roundg (gk-1)
    case measure=>omega
    case rel=>exact ⟨i+1,by omega,by go_num,by rw [HNx.out],by rw [HNx.out,HP2.out];exact hgood,HA2,AD (fun _=>rfl),hS⟩
   obtain rfl:i=16:=by omega
   have hE0:Hid (BA C S=0):=AD (by
    rw [HE3.out,if_pos]
    refine ⟨?_,(F7 _).2 HA.out⟩
    have h1:=HZ.out (by omega)
    have h2:=HB3.out
    rw [h1] at h2
    simpa using h2)
   repeat' (first
    | refine X8 ?_|refine X2 ?_|refine AG ?_;go_step|fail)
   refine BW rfl (AC.tmp rfl) rfl ?_
   exact ⟨(by rw [hE0.out];first|done|rfl),hS.1⟩
end Go.Proofs.YtohacgmhmbijmaaGreatDoor
namespace Go.Proofs.YtohacgmhmbijmaaGreatDoor
attribute [local irreducible] Region.wanted
open Go.ChangeShapes Go.WideShapes Go.ChangeAt Go.RowKit Go.Deep
set_option linter.unusedVariables false
set_option maxRecDepth 100000
set_option maxHeartbeats 8000000
structure Rw where
 ad:Option Addr
 c:Nat
 xs:List Int
def Rw.val(p:Rw):Value:= .slice p.ad p.xs.length p.c
structure BT(w:World)(a:Option Addr)(c:Nat)(R:List Rw):Prop where
 sl:Sl w 1 (.slice a R.length c) R.length (R.map Rw.val)
 row:∀r∈R,Sl w 1 r.val r.xs.length (r.xs.map (Value.int .i64))
theorem BT.ext{w w':World}{a:Option Addr}{c:Nat}{R:List Rw}(h:BT w a c R)(hE:Al w w'):BT w' a c R:=⟨h.sl.ext hE,fun r hr=>(h.row r hr).ext hE⟩
theorem U5{W:World}{a:Addr}{len cap:Nat}(hl:len≤cap)(hm:cap≤maxLen)(V:Nat→Value)(hV:∀i,i<len→W.cell? (a.add i)=some (V i)):Sl W 1 (.slice (some a) len cap) len ((List.range len).map V):=by
 refine ⟨by simp,some a,cap,rfl,hl,hm,?_⟩
 rcases Nat.eq_zero_or_pos len with h0|h0
 ·exact .inl h0
 refine .inr ?_
 have hc0:=hV 0 h0
 have hspot:a.spot=none:=by
  rw [show a.add 0=a from rfl] at hc0
  unfold World.cell? at hc0
  split at hc0
  ·split at hc0
   ·cases hc0
   rename_i hh;simpa using hh
  cases hc0
 refine ⟨a.block,a.off,by cases a;simp at hspot;simp [hspot],fun i hi=>?_⟩
 rw [Nat.mul_one] at hi
 have hci:=hV i hi
 have haddr:a.add i=⟨a.block,a.off+i,none⟩:=by
  unfold Addr.add
  split
  ·rename_i h0;subst h0;cases a;simp at hspot;simp [hspot]
  rfl
 rw [haddr] at hci
 rw [hci]
 simp [hi]
theorem EC{w:World}{ad:Option Addr}{n c:Nat}{cs:List Value}(hv:Sl w 1 (.slice ad n c) n cs)(hn:0<n):∃b off,ad=some ⟨b,off,none⟩∧∀k v,cs[k]? =some v→w.cell? ⟨b,off+k,none⟩=some v:=by
 obtain ⟨hl,a',c',e1,_,_,hor⟩:=hv
 cases e1
 rcases hor with h0|⟨b,off,rfl,hc⟩
 ·omega
 refine ⟨b,off,rfl,fun k v hk=>?_⟩
 have:k<cs.length:=(List.getElem?_eq_some_iff.1 hk).1
 rw [hc k (by omega),hk]
instance:Inhabited Rw:=⟨⟨none,0,[]⟩⟩
theorem XM{H:Type}{enc:TypeId×Value→H}{W:World}{fuel:Nat}{v:Value}{x:DataW H×List MemPlace}(h:DataW.trod enc Tryz.prog W 0 (fun _=>true) true fuel 22 [v]=some x):
 ∃(a:Option Addr) (c:Nat) (R:List Rw),v= .slice a R.length c∧R.length≤c∧c≤9223372036854775807∧BT W a c R:=by
 rcases open_slice1 Tryz.underlying22 AA h with ⟨h0,_⟩|⟨a,len,cap,m,n,V,D,Pl,hcs,_,hl,hm,hmm,_,hV⟩
 ·obtain rfl:v= .slice none 0 0:=by simpa using h0
  exact ⟨none,0,[],rfl,by simp,by omega,⟨Sl.nil W 1,fun r hr=>by cases hr⟩⟩
 obtain rfl:v= .slice (some a) len cap:=by simpa using hcs
 have hmc:m=cap:=by simpa using hmm
 subst hmc
 have each:∀i,i<len→∃r:Rw,V i=r.val∧Sl W 1 r.val r.xs.length (r.xs.map (Value.int .i64)):=by
  intro i hi
  obtain ⟨h1,h2⟩:=hV i (by omega)
  obtain ⟨k,S,hS,hsl,hsr⟩:=P1 .i64 Tryz.underlying30 1 AA 1 AA (by omega) h2
  obtain ⟨ad,c,e⟩:∃ad c,V i= .slice ad k c:=by
   obtain ⟨_,ad,c,h1,_⟩:=hsl
   exact ⟨ad,c,h1⟩
  rw [Nat.mul_one] at hS
  subst hS
  exact ⟨⟨ad,c,S⟩,e,by rw [e] at hsl;exact hsl⟩
 obtain ⟨f,hf⟩:=choose_lt each
 have hR:((List.range len).map f).length=len:=by simp
 refine ⟨some a,m,(List.range len).map f,by rw [hR],by rw [hR];exact hl,by unfold maxLen at hm;exact hm,⟨?_,?_⟩⟩
 ·rw [hR,List.map_map]
  have e:(List.range len).map (Rw.val ∘ f)=(List.range len).map V:=List.map_congr_left fun i hi=>((hf i (List.mem_range.1 hi)).1).symm
  rw [e]
  exact U5 hl hm V fun i hi=>(hV i (by omega)).1
 intro r hr
 obtain ⟨i,hi,rfl⟩:=List.mem_map.1 hr
 exact (hf i (List.mem_range.1 hi)).2
theorem Z4{H:Type}{enc:TypeId×Value→H}{W:World}{v:Value}{d:DataW H}{p:List MemPlace}{base:Nat}(ho:Value.okWide Tryz.prog W .any base 24 v)(h:DataW.Trod enc Tryz.prog W 0 (fun _=>true) true 24 v d p):
 ∃(m k:Int) (a:Option Addr) (c:Nat) (R:List Rw),v= .agg #[.int .i64 m, .int .i64 k, .slice a R.length c]∧(-9223372036854775808≤m∧m≤9223372036854775807)∧(-9223372036854775808≤k∧k≤9223372036854775807)∧R.length≤c∧c≤9223372036854775807∧BT W a c R:=by
 obtain ⟨cs,rfl⟩:=Z3 (by rw [Tryz.underlying24]) ho
 obtain ⟨fuel,h⟩:=h
 obtain ⟨ys,m2,_,_,hl2,hy2,hg⟩:=DataW.trod_struct Tryz.underlying24 h
 have hl3:cs.toList.length=3:=hl2.trans AA
 have hy2':ys.length=3:=hy2
 have g0:=hg 0 {name:= "Wide",type:=3,offset:=0,embedded:=false,tag:= "",pkgPath:= "",byteOffset:=0} rfl
 have g1:=hg 1 {name:= "High",type:=3,offset:=1,embedded:=false,tag:= "",pkgPath:= "",byteOffset:=8} rfl
 have g2:=hg 2 {name:= "Parts",type:=22,offset:=2,embedded:=false,tag:= "",pkgPath:= "",byteOffset:=16} rfl
 have e:(Value.agg cs).cells.toList=cs.toList:=rfl
 dsimp only at g0 g1 g2
 rw [e] at g0 g1 g2
 have c1:Tryz.prog.cellsOf 3=1:=by kernel_rfl
 have c2:Tryz.prog.cellsOf 22=1:=by kernel_rfl
 rw [List.getElem?_eq_getElem (by omega)] at g0 g1 g2
 rw [c1] at g0 g1
 rw [c2] at g2
 obtain ⟨x,y,z,hxyz⟩:∃x y z,cs.toList=[x,y,z]:=by
  match hd:cs.toList,hl3 with
  | [x,y,z],_=>exact ⟨x,y,z,rfl⟩
 rw [hxyz] at g0 g1 g2
 have g0':DataW.trod enc Tryz.prog W 0 (fun _=>true) true m2 3 [x]=some _:=g0
 have g1':DataW.trod enc Tryz.prog W 0 (fun _=>true) true m2 3 [y]=some _:=g1
 have g2':DataW.trod enc Tryz.prog W 0 (fun _=>true) true m2 22 [z]=some _:=g2
 obtain ⟨i0,e0,_,w0⟩:=DataW.trod_int Tryz.underlying3 g0'
 obtain ⟨i1,e1,_,w1⟩:=DataW.trod_int Tryz.underlying3 g1'
 obtain ⟨a,c,R,rfl,h1,h2,h3⟩:=XM g2'
 obtain rfl:x= .int .i64 i0:=by simpa using e0
 obtain rfl:y= .int .i64 i1:=by simpa using e1
 refine ⟨i0,i1,a,c,R,?_,(Kj _).1 w0,(Kj _).1 w1,h1,h2,h3⟩
 congr 1
 apply Array.ext'
 rw [hxyz]
end Go.Proofs.YtohacgmhmbijmaaGreatDoor
namespace Go.Proofs.YtohacgmhmbijmaaGreatDoor
attribute [local irreducible] Region.wanted
open Go.RowKit
set_option linter.unusedVariables false
set_option maxRecDepth 100000
set_option maxHeartbeats 8000000
def star(rs:List Au):Au:=Zk fun _:Unit=>rs
theorem St.star0{W w:World}{rs:List Au}(h:St W w rs):St W w (Go.Proofs.YtohacgmhmbijmaaGreatDoor.star []::rs):=St.close () h
theorem St.starPut{W w:World}{r:Au}{ss rs rs':List Au}(h:St W w (Go.Proofs.YtohacgmhmbijmaaGreatDoor.star ss::rs))(p:AT r rs rs'):St W w (Go.Proofs.YtohacgmhmbijmaaGreatDoor.star (ss++[r])::rs'):=by
 have h1:St W w (r::Go.Proofs.YtohacgmhmbijmaaGreatDoor.star ss::rs'):=h.pull (.tail p)
 obtain ⟨_,h2⟩:=(h1.pull (.tail .head)).open
 refine St.close () ?_
 have h3:St W w (ss++(r::rs')):=h2
 simpa using h3
theorem AT.mem{r:Au}:∀{ss:List Au} (rs:List Au),r∈ss→∃ss',AT r (ss++rs) ss'
 | [],_,h=>by cases h
 | x::ss,rs,h=>by
   by_cases hx:r=x
   ·subst hx;exact ⟨_, .head⟩
   obtain ⟨s,hs⟩:=AT.mem (ss:=ss) rs ((List.mem_cons.1 h).resolve_left hx);exact ⟨x::s, .tail hs⟩
theorem St.starGet{W w:World}{ss rs rs':List Au}(h:St W w rs)(p:AT (Go.Proofs.YtohacgmhmbijmaaGreatDoor.star ss) rs rs'){r:Au}(hr:r∈ss):∃rs'',St W w (r::rs''):=by
 obtain ⟨_,h2⟩:=(h.pull p).open
 obtain ⟨s,hs⟩:=AT.mem rs' hr
 exact ⟨s,h2.pull hs⟩
theorem Q7{W w:World}{rs rs':List Au}{e:TypeId}{s n c:Nat}{ad:Option Addr}{cs:List Value}(hS:St W w rs)(hp:AT (own e s ad n c cs) rs rs')(h:ad=none):c=0:=by
 rcases (hS.own hp).2 with ⟨h1,_⟩|⟨g,cap,cur,h1,_⟩
 ·cases h1;rfl
 subst h;cases h1
theorem SY{m h:Int}{R:List Rw}{k:Nat}{r:Rw}(hr:R[k]? =some r):IW m h ((R.map (·.xs)).drop k)=if Cf r.xs r.xs.length m h=0 then IW m h ((R.map (·.xs)).drop (k+1)) else Cf r.xs r.xs.length m h:=by
 have hk:k<(R.map (·.xs)).length:=by rw [List.length_map];exact (List.getElem?_eq_some_iff.1 hr).1
 have e:(R.map (·.xs))[k]=r.xs:=by
  have:=(List.getElem?_eq_some_iff.1 hr).2
  simp [this]
 rw [List.drop_eq_getElem_cons hk,IW,e]
theorem BT.at{w:World}{a:Option Addr}{c:Nat}{R:List Rw}(h:BT w a c R){k:Nat}{r:Rw}(hr:R[k]? =some r):(R.map Rw.val)[k]? =some (.slice r.ad r.xs.length r.c)∧Sl w 1 (.slice r.ad r.xs.length r.c) r.xs.length (r.xs.map (Value.int .i64))∧r.xs.length≤9223372036854775807:=by
 have hs:=h.row r (List.mem_of_getElem? hr)
 refine ⟨by rw [List.getElem?_map,hr];rfl,hs,?_⟩
 obtain ⟨_,a',c',e,h1,h2,_⟩:=hs
 unfold maxLen at h2
 omega
theorem It(w0:World)(m h:Int)(hm: -9223372036854775808≤m∧m≤9223372036854775807)(a:Option Addr)(c:Nat)(R:List Rw)(hR:R.length≤9223372036854775807)(hP:BT w0 a c R):
 Calls Tryz.prog 24 #[.agg #[.int .i64 m, .int .i64 h, .slice a R.length c]] w0 fun e w=>e= .returned (.int .i64 (E9 m h (R.map (·.xs))))∧Al w0 w:=by
 have hS:=St.start w0
 obtain ⟨N,hN⟩:∃N,R.length=N:=⟨_,rfl⟩
 have hlen:(R.map (·.xs)).length=N:=by rw [List.length_map,hN]
 have HP:Hid (BT w0 a c R):=hP
 have hsl:=hP.sl
 rw [hN] at hsl hR⊢
 have HN:=AD hN
 clear hP hN
 by_cases hok:1≤m∧m≤64∧1≤h∧h≤64
 case neg=>
  have HE:=AD (show E9 m h (R.map (·.xs))=1 by unfold E9;rw [if_neg hok])
  go_enter Tryz.func24,Tryz.ntmps24
  repeat' (first
   | (refine A3 32 ?_);refine A4 AA Tryz.call32 (Gx _ m h) ?_;rintro e w ⟨rfl,hE⟩;replace hS:=hS.ext hE;clear hE;rw [if_neg hok,if_neg hok];refine Ae ?_;go_step|refine X0 ?_|refine YC ?_|refine YD ?_|refine X6 ?_|refine X3 ?_|refine PF 1 ?_;clear hS;intro g1 w hS|refine X9 ?_|refine AG ?_;go_step|fail)
  go_ret
  exact ⟨by rw [HE.out];rfl,hS.1⟩
 obtain ⟨kk0,kk1⟩:=Ds ((m+7)/8) ((h+7)/8) 8 8 (by omega) (by omega)
 by_cases hn:N=1∨N=3
 case neg=>
  have hn2:¬((N:Int)=1)∧¬((N:Int)=3):=by omega
  have HE:=AD (show E9 m h (R.map (·.xs))=1 by unfold E9;rw [if_pos hok,if_neg (by rw [hlen];exact hn)])
  go_enter Tryz.func24,Tryz.ntmps24
  repeat' (first
   | (refine A3 32 ?_);refine A4 AA Tryz.call32 (Gx _ m h) ?_;rintro e w ⟨rfl,hE⟩;replace hS:=hS.ext hE;clear hE;rw [if_pos hok,if_pos hok];refine Ae ?_;go_step|refine X0 ?_|refine FJ ?_|refine Es 23 ?_ ?_<;>intro hB<;>(try exact AW)<;>go_step|refine YC ?_|refine YD ?_|refine X6 ?_|refine X3 ?_|refine YE ?_|refine TU ?_|refine IJ ?_|refine PF 1 ?_;clear hS;intro g1 w hS|refine X9 ?_|refine WX ?_|refine AG ?_;go_step|fail)
  all_goals (try exact AW)
  all_goals
   go_ret
   exact ⟨by rw [HE.out];rfl,hS.1⟩
 have HE:=AD (show E9 m h (R.map (·.xs))=IW m h (R.map (·.xs)) by unfold E9;rw [if_pos hok,if_pos (by rw [hlen];exact hn)])
 obtain ⟨b0,o0,rfl,hcell⟩:=EC hsl (by omega)
 have HCELL:=AD hcell
 clear hcell
 go_enter Tryz.func24,Tryz.ntmps24
 repeat' (first
  | (refine A3 32 ?_);refine A4 AA Tryz.call32 (Gx _ m h) ?_;rintro e w ⟨rfl,hE⟩;replace hS:=hS.ext hE;clear hE;rw [if_pos hok,if_pos hok];refine Ae ?_;go_step|go_skip|refine X0 ?_|refine IL ?_|refine Es 23 ?_ ?_<;>intro hB<;>(try exact AW)<;>go_step|refine YC ?_|refine YD ?_|refine X6 ?_|refine X3 ?_|refine YE ?_|refine TU ?_|refine IJ ?_|refine PF 1 ?_;clear hS;intro g1 w hS|refine X9 ?_|refine WX ?_|refine AG ?_;go_step|fail)
 all_goals (try exact AW)
 all_goals
  go_loopg [33] N (fun gk kv w=>∃k:Nat,gk+k=N∧kv= .int .i64 k∧Hid (IW m h (R.map (·.xs))=IW m h ((R.map (·.xs)).drop k))∧St w0 w [blk g1 [.int .i64 m, .int .i64 h, .slice (some ⟨b0,o0,none⟩) N c]])
  case atStart=>exact ⟨0,rfl,rfl,AD rfl,hS.sub AV⟩
  case round=>
   clear hS
   obtain ⟨k,hk,rfl,HD,hS⟩:=hrel
   by_cases hlt:k<N
   ·obtain ⟨r,hr⟩:∃r,R[k]? =some r:=⟨_,List.getElem?_eq_getElem (by rw [HN.out];exact hlt)⟩
    have hst:=SY (m:=m) (h:=h) hr
    obtain ⟨hg0,hrs,hrl⟩:=HP.out.at hr
    obtain ⟨ra,rc,rx⟩:=r
    dsimp only at hst hg0 hrs hrl
    obtain ⟨rn,hrn⟩:∃n,rx.length=n:=⟨_,rfl⟩
    rw [hrn] at hst hg0 hrs hrl
    obtain ⟨E,hE⟩:∃E,Cf rx rn m h=E:=⟨_,rfl⟩
    rw [hE] at hst
    have HST:=AD hst
    have HEC:=AD hE
    have hcl:=HCELL.out k _ hg0
    clear hst hr hE hg0
    by_cases h0:E=0
    ·subst h0
     repeat' (first
      | (refine A3 46 ?_);refine A4 AA Tryz.call46 (MJ _ ra rn rc rx m h (by omega) (by omega) (hrs.ext hS.1) rfl) ?_;rintro e w ⟨ad2,c2,rfl,hS2⟩;rw [HEC.out] at hS2⊢;replace hS:=hS.ext hS2.1;clear hS2;refine Ae ?_;go_step|refine X0 ?_|refine X2 ?_|refine YJ 35 ?_|refine YC ?_|refine YD ?_|refine X6 ?_|refine X3 ?_|refine YH ?_|refine X9 ?_|refine AG ?_;go_step|fail)
     all_goals (try exact AW)
     repeat' (first
      | refine X1 ?_|refine X7 ?_|refine AG ?_;go_step|fail)
     go_roundg (gk-1)
     case measure=>omega
     case rel=>exact ⟨k+1,by omega,by go_num,AD (by rw [HD.out,HST.out,if_pos rfl]),hS.sub AV⟩
    repeat' (first
     | (refine A3 46 ?_);refine A4 AA Tryz.call46 (MJ _ ra rn rc rx m h (by omega) (by omega) (hrs.ext hS.1) rfl) ?_;rintro e w ⟨ad2,c2,rfl,hS2⟩;rw [HEC.out] at hS2⊢;replace hS:=hS.ext hS2.1;clear hS2;refine Ae ?_;go_step|refine X0 ?_|refine X2 ?_|refine YJ 35 ?_|refine YC ?_|refine YD ?_|refine X6 ?_|refine X3 ?_|refine YH ?_|refine X9 ?_|refine AG ?_;go_step|fail)
    all_goals (try exact AW)
    have hfin:E9 m h (R.map (·.xs))=E:=by rw [HE.out,HD.out,HST.out];exact if_neg h0
    go_ret
    exact ⟨by rw [hfin];rfl,hS.1⟩
   obtain rfl:k=N:=by omega
   have h0:IW m h (R.map (·.xs))=0:=by rw [HD.out,List.drop_of_length_le (by rw [hlen];exact Nat.le_refl _)];rfl
   repeat' (first
    | refine X8 ?_|refine X2 ?_|refine AG ?_;go_step|fail)
   repeat' (first
    | refine AG ?_;go_step|fail)
   go_ret
   exact ⟨by rw [HE.out,h0];rfl,hS.1⟩
section
variable{P:Program}{W w:World}{rs rs':List Au}{Q:Exit→Act→World→Prop}{K:Act→World→Prop}{o:Oper}{a:Act}
theorem VX(hS:St W w rs)(t:TypeId)(x y:Operand)(ho:o.op= .makeSlice t x y)(e:TypeId)(b:Nat)(z:Value)(ht:P.underlying t=some (.slice e))(hi:(P.info? e).map (fun i=>(i.zero,i.size,i.bytes))=some (some z,1,b))(hz:z.cells=#[z])(kx ky:IntKind)(n:Nat)(hx:a.eval x= .int kx (n:Int))(hy:a.eval y= .int ky (n:Int))(hb:b*n≤281474976710656)(h63:n≤maxLen)
 (h:∀g w',St W w' (own e 1 (some ⟨g,0,none⟩) n n (List.replicate n z)::rs)→K (a.put o.dst (.slice (some ⟨g,0,none⟩) n n)) w'):o.wp P a w K Q:=by
 obtain ⟨info,h1,h2,h3,h4⟩:=info_parts hi
 obtain ⟨w',hr,ho',hg⟩:=run_make_full (P:=P) w 0 t e info z 1 ht h1 h2 h3 kx ky n (by rw [h4];exact hb) h63 (Nat.zero_le _)
 have hc:(madeCells z.cells (n*1)).toList=List.replicate n z:=by
  rw [hz,Nat.mul_one]
  apply List.ext_getElem?
  intro i
  by_cases hi:i<n
  ·simp [madeCells,hi,Nat.mod_one]
  simp [madeCells,hi]
 rw [hc] at ho'
 unfold Oper.wp execOp
 simp only [ho,hx,hy,Sem.run_bind,hr,Result.andThen_ok,Sem.run_pure]
 exact h _ _ (St.grown (f:=[w.heap.size]) hS hg ⟨rfl,ho'⟩ (by simp) (by simp))
end
theorem F9{w:World}{ad:Option Addr}{n c:Nat}{l:List Int}(hv:Sl w 1 (.slice ad n c) n (l.map (Value.int .i64)))(hn:0<n):∃b off,ad=some ⟨b,off,none⟩∧∀k,k<n→w.cell? ⟨b,off+k,none⟩=some (.int .i64 (AK l k)):=by
 have hl:l.length=n:=by have:=hv.1;simpa using this
 obtain ⟨b,off,e,h⟩:=EC hv hn
 refine ⟨b,off,e,fun k hk=>h k _ ?_⟩
 have hk:k<l.length:=by omega
 simp [AK,List.getD,List.getElem?_eq_getElem hk]
structure C3(K:FuncId)(f1 f2 f3:Int→Int→Int→Int):Prop where
 call:∀(args:Array Value)(w:World),(callFunc K args).run Tryz.prog w= .ok (.enter K args) w
 run:∀(x y z:Int)(w:World),(0≤x∧x≤255)→(0≤y∧y≤255)→(0≤z∧z≤255)→Calls Tryz.prog K #[.int .i64 x, .int .i64 y, .int .i64 z] w fun e w'=>e= .returned (.tuple #[.int .i64 (f1 x y z), .int .i64 (f2 x y z), .int .i64 (f3 x y z), .int .i64 0])∧Al w w'
theorem YP:C3 30 NP NN NO:=⟨Tryz.call30,fun x y z w hx hy hz=>QB x y z w hx hy hz⟩
theorem Wk:C3 96 Iw Iv Iu:=⟨Tryz.call96,fun x y z w hx hy hz=>Mx x y z w hx hy hz⟩
def Ya(M g:Nat):Value:= .slice (some ⟨g,0,none⟩) M M
def bA(M g:Nat):Au:=own 3 1 (some ⟨g,0,none⟩) M M ((List.replicate M (0:Int)).map (Value.int .i64))
theorem Xi(M:Nat)(G:List Nat)(g k:Nat)(h:G.length=k)(hk:k<3):(G.map (Ya M)++List.replicate (3-k) (Value.slice none 0 0)).set k (Ya M g)=(G++[g]).map (Ya M)++List.replicate (3-(k+1)) (Value.slice none 0 0):=by
 obtain ⟨j,hj⟩:∃j,3-k=j+1:=⟨3-k-1,by omega⟩
 rw [hj,show 3-(k+1)=j by omega,List.set_append_right _ _ (by rw [List.length_map];omega),List.length_map,h,Nat.sub_self,List.replicate_succ,List.set_cons_zero,List.map_append,List.append_assoc]
 rfl
theorem Xh{W w:World}{X r:Au}{ss:List Au}(h:St W w [X,r,star ss]):St W w [X,star (ss++[r])]:=
 (((h.sub (xs:=[star ss,r,X]) (.cons (.tail (.tail .head)) (.cons (.tail .head) (.cons .head .nil)))).starPut .head).sub (.cons (.tail .head) (.cons .head .nil)))
def Rw.res(p:Rw):Au:=own 3 1 p.ad p.xs.length p.c (p.xs.map (Value.int .i64))
def DO(W w:World)(a:Option Addr)(c:Nat)(R:List Rw)(rs:List Au):Prop:=St W w (own 30 1 a R.length c (R.map Rw.val)::star (R.map Rw.res)::rs)
theorem BT.of{W w:World}{a:Option Addr}{c:Nat}{R:List Rw}{rs r1 r2:List Au}(h:St W w rs)(p1:AT (own 30 1 a R.length c (R.map Rw.val)) rs r1)(p2:AT (star (R.map Rw.res)) rs r2):BT w a c R:=by
 refine ⟨h.sl p1,fun r hr=>?_⟩
 obtain ⟨s,hs⟩:=h.starGet p2 (List.mem_map.2 ⟨r,hr,rfl⟩)
 exact hs.sl (show AT (own 3 1 r.ad r.xs.length r.c (r.xs.map (Value.int .i64))) (Rw.res r::s) s from .head)
def QP(w0:World)(L:List (List Int))(e:Ending)(w:World):Prop:=∃(a:Option Addr) (c:Nat) (R:List Rw),R.map (·.xs)=L∧e= .returned (.slice a R.length c)∧DO w0 w a c R []
def PE(w0:World)(L:List (List Int))(e:Ending)(w:World):Prop:=∃(a:Option Addr) (c:Nat) (R:List Rw),R.map (·.xs)=L∧e= .returned (.slice a R.length c)∧BT w a c R∧Al w0 w
theorem QE(w0:World)(a:Option Addr)(c:Nat)(R:List Rw)(hP:BT w0 a c R)(hR:R.length≤9223372036854775807)(h3:R.length≠3)(K:FuncId)(f1 f2 f3:Int→Int→Int→Int):
 Calls Tryz.prog 45 #[.slice a R.length c, .func (.func K) #[] #[]] w0 (PE w0 (Cc f1 f2 f3 (R.map (·.xs)))):=by
 have hT:Cc f1 f2 f3 (R.map (·.xs))=R.map (·.xs):=by
  unfold Cc
  split
  ·rename_i x y z e
   have:=congrArg List.length e
   rw [List.length_map] at this
   exact absurd this h3
  rfl
 rw [hT]
 have HP:Hid (BT w0 a c R):=hP
 have hS:=St.start w0
 obtain ⟨N,hN⟩:∃N,R.length=N:=⟨_,rfl⟩
 rw [hN] at hR h3⊢
 have h3':¬(N:Int)=3:=by omega
 go_enter Tryz.func45,Tryz.ntmps45
 repeat' (first
  | refine X0 ?_|refine TU ?_|refine IJ ?_|refine AG ?_;go_step|fail)
 all_goals (try exact AW)
 go_ret
 exact ⟨a,c,R,rfl,by rw [hN];rfl,HP.out.ext hS.1,hS.1⟩
theorem Hz(w0:World)(a a0 a1 a2:Option Addr)(c c0 c1 c2 M:Nat)(l0 l1 l2:List Int)(hP:BT w0 a c [⟨a0,c0,l0⟩,⟨a1,c1,l1⟩,⟨a2,c2,l2⟩])(hM:M≤4096)(h0:l0.length=M)(h1:l1.length=M)(h2:l2.length=M)(b0:∀i,i<M→0≤AK l0 i∧AK l0 i≤255)(b1:∀i,i<M→0≤AK l1 i∧AK l1 i≤255)(b2:∀i,i<M→0≤AK l2 i∧AK l2 i≤255)(K:FuncId)(f1 f2 f3:Int→Int→Int→Int)(hK:C3 K f1 f2 f3):
 Calls Tryz.prog 45 #[.slice a 3 c, .func (.func K) #[] #[]] w0 (QP w0 [z3 f1 l0 l1 l2,z3 f2 l0 l1 l2,z3 f3 l0 l1 l2]):=by
 have hS:=St.start w0
 have hsl:Sl w0 1 (.slice a 3 c) 3 [.slice a0 M c0, .slice a1 M c1, .slice a2 M c2]:=by
  have:=hP.sl
  simpa [Rw.val,h0,h1,h2] using this
 have hv0:Sl w0 1 (.slice a0 M c0) M (l0.map (Value.int .i64)):=by have:=hP.row ⟨a0,c0,l0⟩ (by simp);simpa [Rw.val,h0] using this
 have hv1:Sl w0 1 (.slice a1 M c1) M (l1.map (Value.int .i64)):=by have:=hP.row ⟨a1,c1,l1⟩ (by simp);simpa [Rw.val,h1] using this
 have hv2:Sl w0 1 (.slice a2 M c2) M (l2.map (Value.int .i64)):=by have:=hP.row ⟨a2,c2,l2⟩ (by simp);simpa [Rw.val,h2] using this
 have B0:=AD b0
 have B1:=AD b1
 have B2:=AD b2
 have HK:Hid (C3 K f1 f2 f3):=hK
 have H0:=AD h0
 clear hP b0 b1 b2 h0 h1 h2 hK
 obtain ⟨pb,po,rfl,hcell⟩:=EC hsl (by omega)
 have HCELL:=AD hcell
 have hq0:w0.cell? ⟨pb,po,none⟩=some (.slice a0 M c0):=hcell 0 _ rfl
 have hq1:w0.cell? ⟨pb,po+1,none⟩=some (.slice a1 M c1):=hcell 1 _ rfl
 have hq2:w0.cell? ⟨pb,po+2,none⟩=some (.slice a2 M c2):=hcell 2 _ rfl
 clear hcell
 go_enter Tryz.func45,Tryz.ntmps45
 repeat' (first
  | refine X0 ?_|refine TU ?_|refine IJ ?_|refine AG ?_;go_step|fail)
 all_goals (try exact AW)
 repeat' (first
  | (refine AS 12 ?_);refine Ag ?_;refine VX (o:=⟨some 12,_,_,_,_,_⟩) hS 22 _ _ rfl 30 24 (.slice none 0 0) Tryz.underlying22 AA rfl _ _ 3 rfl rfl (by omega) (by unfold maxLen;omega) ?_;clear hS;intro g12 w hS;refine AB ?_;go_step|refine X0 ?_|refine TU ?_|refine AG ?_;go_step|fail)
 go_loopg [15] 3 (fun gk kv w=>∃(k:Nat) (G:List Nat),gk+k=3∧kv= .int .i64 k∧G.length=k∧St w0 w [own 30 1 (some ⟨g12,0,none⟩) 3 3 (G.map (Ya M)++List.replicate (3-k) (.slice none 0 0)),star (G.map (bA M))])
 case atStart=>
  refine ⟨0,[],rfl,rfl,rfl,?_⟩
  show St w0 _ [own 30 1 (some ⟨g12,0,none⟩) 3 3 (List.replicate 3 (.slice none 0 0)),star []]
  exact (St.star0 hS).sub AV
 case round=>
  clear hS
  obtain ⟨k,G,hk,rfl,hG,hS⟩:=hrel
  by_cases hlt:k<3
  ·obtain ⟨ak,ck,hg0⟩:∃ak ck,([.slice a0 M c0, .slice a1 M c1, .slice a2 M c2]:List Value)[k]? =some (.slice ak M ck):=by
    obtain rfl|rfl|rfl:k=0∨k=1∨k=2:=by omega
    ·exact ⟨_,_,rfl⟩
    ·exact ⟨_,_,rfl⟩
    exact ⟨_,_,rfl⟩
   have HG:=AD hG
   have hcl:=HCELL.out k _ hg0
   clear hG hg0
   repeat' (first
    | refine X0 ?_|refine X2 ?_|refine YJ 22 ?_|refine TV ?_|refine YJ 26 ?_|refine X7 ?_|refine YH ?_|refine bH 25 ?_;clear hS;intro g25 w hS|(with_reducible refine An _ (.store 30 _ _) ?_);(refine Ag ?_;apply Kp hS 30 _ _ rfl _ _ rfl (AH rfl) _ _ _ _ _;(case hp=>exact AJ);(case hy=>exact CG);(case hv=>rfl);(case hi=>omega);(case hd=>exact rfl);clear hS;intro w hS)|refine AG ?_;go_step|fail)
   all_goals (try exact AW)
   rw [show Value.slice (some ⟨g25,0,none⟩) M M=Ya M g25 from rfl,Xi M G g25 k HG.out hlt] at hS
   go_roundg (gk-1)
   case measure=>omega
   case rel=>
    refine ⟨k+1,G++[g25],by omega,by go_num,by rw [List.length_append,HG.out];rfl,?_⟩
    rw [List.map_append (f:=bA M)]
    rw [Nat.mul_one] at hS
    exact Xh (r:=bA M g25) (hS.sub (.cons .head (.cons .head (.cons .head .nil))))
  obtain rfl:k=3:=by omega
  obtain ⟨p,q,r,rfl⟩:∃p q r,G=[p,q,r]:=by
   match G,hG with
   | [p,q,r],_=>exact ⟨p,q,r,rfl⟩
  replace hS:St w0 wr [own 30 1 (some ⟨g12,0,none⟩) 3 3 [.slice (some ⟨p,0,none⟩) M M, .slice (some ⟨q,0,none⟩) M M, .slice (some ⟨r,0,none⟩) M M],own 3 1 (some ⟨p,0,none⟩) M M ((List.replicate M (0:Int)).map (Value.int .i64)),own 3 1 (some ⟨q,0,none⟩) M M ((List.replicate M (0:Int)).map (Value.int .i64)),own 3 1 (some ⟨r,0,none⟩) M M ((List.replicate M (0:Int)).map (Value.int .i64))]:=by
   have h9:=hS.pull (.tail .head)
   obtain ⟨_,h8⟩:=h9.open
   have h7:St w0 wr [bA M p,bA M q,bA M r,own 30 1 (some ⟨g12,0,none⟩) 3 3 [Ya M p,Ya M q,Ya M r]]:=h8
   exact h7.sub (.cons (.tail (.tail (.tail .head))) (.cons .head (.cons .head (.cons .head .nil))))
  clear hG hk hlt
  repeat' (first
   | refine X1 ?_|refine X2 ?_|refine AG ?_;go_step|fail)
  all_goals (try exact AW)
  repeat' (first
   | refine X1 ?_|(refine AS 29 ?_);(refine As AA (V.indexSl Tryz.underlying22 I0 rfl rfl (show Bq 0 0 from rfl) (by omega) (show 0*1=0 from rfl) BO) ?_;go_step)|refine TV ?_|refine YH ?_|refine AG ?_;go_step|fail)
  go_loopg [32] M (fun gk kv w=>∃(i:Nat) (o0 o1 o2:List Int),gk+i=M∧kv= .int .i64 i∧(∀x,x<i→AK o0 x=f1 (AK l0 x) (AK l1 x) (AK l2 x)∧AK o1 x=f2 (AK l0 x) (AK l1 x) (AK l2 x)∧AK o2 x=f3 (AK l0 x) (AK l1 x) (AK l2 x))∧
   St w0 w [own 30 1 (some ⟨g12,0,none⟩) 3 3 [.slice (some ⟨p,0,none⟩) M M, .slice (some ⟨q,0,none⟩) M M, .slice (some ⟨r,0,none⟩) M M],own 3 1 (some ⟨p,0,none⟩) M M (o0.map (Value.int .i64)),own 3 1 (some ⟨q,0,none⟩) M M (o1.map (Value.int .i64)),own 3 1 (some ⟨r,0,none⟩) M M (o2.map (Value.int .i64))])
  case atStart=>exact ⟨0,_,_,_,by omega,rfl,fun x hx=>by omega,hS.sub AV⟩
  case round=>
   clear hS
   obtain ⟨i,o0,o1,o2,hi,rfl,ho,hS⟩:=hrel
   have HO:=AD ho
   clear ho
   by_cases hlt:i<M
   ·obtain ⟨x0,y0,rfl,hx0⟩:=F9 hv0 (by omega)
    obtain ⟨x1,y1,rfl,hx1⟩:=F9 hv1 (by omega)
    obtain ⟨x2,y2,rfl,hx2⟩:=F9 hv2 (by omega)
    replace hx0:=hx0 i hlt
    replace hx1:=hx1 i hlt
    replace hx2:=hx2 i hlt
    have hc:=HK.out.run (AK l0 i) (AK l1 i) (AK l2 i)
    obtain ⟨v1,hv1'⟩:∃v,f1 (AK l0 i) (AK l1 i) (AK l2 i)=v:=⟨_,rfl⟩
    obtain ⟨v2,hv2'⟩:∃v,f2 (AK l0 i) (AK l1 i) (AK l2 i)=v:=⟨_,rfl⟩
    obtain ⟨v3,hv3'⟩:∃v,f3 (AK l0 i) (AK l1 i) (AK l2 i)=v:=⟨_,rfl⟩
    rw [hv1',hv2',hv3'] at hc
    have HC:=AD fun w=>hc w (B0.out i hlt) (B1.out i hlt) (B2.out i hlt)
    have HV:=AD (And.intro hv1' (And.intro hv2' hv3'))
    clear hc hv1' hv2' hv3'
    have hO0:([.slice (some ⟨p,0,none⟩) M M, .slice (some ⟨q,0,none⟩) M M, .slice (some ⟨r,0,none⟩) M M]:List Value)[0]? =some (.slice (some ⟨p,0,none⟩) M M):=rfl
    have hO1:([.slice (some ⟨p,0,none⟩) M M, .slice (some ⟨q,0,none⟩) M M, .slice (some ⟨r,0,none⟩) M M]:List Value)[1]? =some (.slice (some ⟨q,0,none⟩) M M):=rfl
    have hO2:([.slice (some ⟨p,0,none⟩) M M, .slice (some ⟨q,0,none⟩) M M, .slice (some ⟨r,0,none⟩) M M]:List Value)[2]? =some (.slice (some ⟨r,0,none⟩) M M):=rfl
    repeat' (first
     | refine X0 ?_|refine X2 ?_|refine AG ?_;go_step|fail)
    all_goals (try exact AW)
    refine AQ [38,40,42] (fun w=>St w0 w [own 30 1 (some ⟨g12,0,none⟩) 3 3 [.slice (some ⟨p,0,none⟩) M M, .slice (some ⟨q,0,none⟩) M M, .slice (some ⟨r,0,none⟩) M M]]) AA ?_
    replace hS:=hS.drew
    focus
     refine Ab 0 ?_
     refine Y8 1 ?_
     refine ch 2 [37,38,39,40,41,42] ?_
     refine Ab 3 ?_
     refine Ab 4 ?_
     refine Y9 5 ?_
     refine ch 6 [37,38,39,40,41,42] ?_
     refine Ab 7 ?_
     refine Ab 8 ?_
     refine MF 9 ?_
     refine ch 10 [37,38,39,40,41,42] ?_
     refine Ab 11 ?_
     refine Ab 12 ?_
     refine Ab 13 ?_
     refine Y8 14 ?_
     refine YL 15 [17,18,31,32,33,34,35,36,37,38,39,40,41,42] ?_
     refine Ab 16 ?_
     refine O7 17 ?_
     refine WZ 18 [31,32,33,34,35,36,37,38,39,40,41,42] ?_
     refine Ab 19 ?_
     refine Y9 20 ?_
     refine YL 21 [23,24,31,32,33,34,35,36,37,38,39,40,41,42] ?_
     refine Ab 22 ?_
     refine O7 23 ?_
     refine WZ 24 [31,32,33,34,35,36,37,38,39,40,41,42] ?_
     refine Ab 25 ?_
     refine MF 26 ?_
     refine YL 27 [29,30,31,32,33,34,35,36,37,38,39,40,41,42] ?_
     refine Ab 28 ?_
     refine O7 29 ?_
     refine WZ 30 [31,32,33,34,35,36,37,38,39,40,41,42] ?_
     refine Aa 31 ?_
     refine BQ (f:=K) rfl rfl HK.out.call (HC.out _) ?_;rintro e w ⟨rfl,hE⟩;replace hS:=hS.ext hE;clear hE;refine ⟨_,rfl,?_⟩
     refine ⟨fun _ _=>hS.sub AV,?_⟩
     refine AF ?_
     go_step
     refine Ab 32 ?_
     refine Y4 33 ?_
     refine Y4 34 ?_
     refine Y4 35 ?_
     refine Y4 36 ?_
     refine O7 37 ?_
     refine Aa 38 ?_
     refine ar ?_;clear hS;intro w hS
     refine O7 39 ?_
     refine Aa 40 ?_
     refine ar ?_;clear hS;intro w hS
     refine O7 41 ?_
     refine Aa 42 ?_
     refine ar ?_;clear hS;intro w hS
     refine AE AA ?_ _
    repeat' (first
     | refine X1 ?_|refine X7 ?_|refine AG ?_;go_step|fail)
    go_roundg (gk-1)
    case measure=>omega
    case rel=>
     have e0:=hS.ownLen (e:=3) (ad:=some ⟨p,0,none⟩) AJ
     have e1:=hS.ownLen (e:=3) (ad:=some ⟨q,0,none⟩) AJ
     have e2:=hS.ownLen (e:=3) (ad:=some ⟨r,0,none⟩) AJ
     rw [List.length_map,List.length_set] at e0 e1 e2
     refine ⟨i+1,_,_,_,by omega,by go_num,fun x hx=>?_,hS.sub AV⟩
     rw [CL o0 i x _ (by omega),CL o1 i x _ (by omega),CL o2 i x _ (by omega)]
     split
     ·rename_i e;subst e;exact ⟨HV.out.1.symm,HV.out.2.1.symm,HV.out.2.2.symm⟩
     exact HO.out x (by have h9:x<i+1:=hx;omega)
   obtain rfl:i=M:=by omega
   have e0:=hS.ownLen (e:=3) (ad:=some ⟨p,0,none⟩) AJ
   have e1:=hS.ownLen (e:=3) (ad:=some ⟨q,0,none⟩) AJ
   have e2:=hS.ownLen (e:=3) (ad:=some ⟨r,0,none⟩) AJ
   rw [List.length_map] at e0 e1 e2
   have t0:z3 f1 l0 l1 l2=o0:=by unfold z3;rw [H0.out];exact (Gp (by omega) fun x hx=>(HO.out x hx).1).symm
   have t1:z3 f2 l0 l1 l2=o1:=by unfold z3;rw [H0.out];exact (Gp (by omega) fun x hx=>(HO.out x hx).2.1).symm
   have t2:z3 f3 l0 l1 l2=o2:=by unfold z3;rw [H0.out];exact (Gp (by omega) fun x hx=>(HO.out x hx).2.2).symm
   have T:=AD (And.intro t0 (And.intro t1 t2))
   have L0:=AD e0
   have L1:=AD e1
   have L2:=AD e2
   clear t0 t1 t2 e0 e1 e2
   repeat' (first
    | refine X0 ?_|refine X2 ?_|refine AG ?_;go_step|fail)
   all_goals (try exact AW)
   repeat' (first
    | refine AG ?_;go_step|fail)
   go_ret
   refine ⟨some ⟨g12,0,none⟩,3,[⟨some ⟨p,0,none⟩,i,o0⟩,⟨some ⟨q,0,none⟩,i,o1⟩,⟨some ⟨r,0,none⟩,i,o2⟩],by rw [T.out.1,T.out.2.1,T.out.2.2];rfl,rfl,?_⟩
   have z0:o0.length=i:=by have:=L0.out;omega
   have z1:o1.length=i:=by have:=L1.out;omega
   have z2:o2.length=i:=by have:=L2.out;omega
   have v9:([⟨some ⟨p,0,none⟩,i,o0⟩,⟨some ⟨q,0,none⟩,i,o1⟩,⟨some ⟨r,0,none⟩,i,o2⟩]:List Rw).map Rw.val=[.slice (some ⟨p,0,none⟩) i i, .slice (some ⟨q,0,none⟩) i i, .slice (some ⟨r,0,none⟩) i i]:=by
    simp [Rw.val,z0,z1,z2]
   have r9:([⟨some ⟨p,0,none⟩,i,o0⟩,⟨some ⟨q,0,none⟩,i,o1⟩,⟨some ⟨r,0,none⟩,i,o2⟩]:List Rw).map Rw.res=[own 3 1 (some ⟨p,0,none⟩) i i (o0.map (Value.int .i64)),own 3 1 (some ⟨q,0,none⟩) i i (o1.map (Value.int .i64)),own 3 1 (some ⟨r,0,none⟩) i i (o2.map (Value.int .i64))]:=by
    simp [Rw.res,z0,z1,z2]
   unfold DO
   rw [v9,r9]
   have h9:St w0 wr (star [own 3 1 (some ⟨p,0,none⟩) i i (o0.map (Value.int .i64)),own 3 1 (some ⟨q,0,none⟩) i i (o1.map (Value.int .i64)),own 3 1 (some ⟨r,0,none⟩) i i (o2.map (Value.int .i64))]::[own 30 1 (some ⟨g12,0,none⟩) 3 3 [.slice (some ⟨p,0,none⟩) i i, .slice (some ⟨q,0,none⟩) i i, .slice (some ⟨r,0,none⟩) i i]]):=St.close () (by dsimp only [List.cons_append,List.nil_append];exact hS.sub AV)
   exact h9.sub (.cons (.tail .head) (.cons .head .nil))
theorem QD{w0 w:World}{L:List (List Int)}{e:Ending}(h:QP w0 L e w):PE w0 L e w:=by
 obtain ⟨a,c,R,h1,h2,h3⟩:=h
 unfold DO at h3
 exact ⟨a,c,R,h1,h2,BT.of h3 .head (.tail .head),h3.1⟩
theorem R6(w0:World)(ad:Option Addr)(n c:Nat)(l:List Int)(m h:Int)(K:Nat)(hm64: -9223372036854775808≤m∧m≤9223372036854775807)(hn:n≤9223372036854775807)(hv:Sl w0 1 (.slice ad n c) n (l.map (Value.int .i64)))(hE:Cf l n m h=0)(hK:Aq m h=K):
 Calls Tryz.prog 46 #[.slice ad n c, .int .i64 m, .int .i64 h] w0 fun e w=>∃ad c,e= .returned (.tuple #[.slice ad K c, .int .i64 0])∧St w0 w [own 26 64 ad K c ((MI l m h).map (Value.int .i64))]:=
 (MJ w0 ad n c l m h hm64 hn hv rfl).mono fun e w ⟨ad2,c2,h1,h2⟩=>by
   rw [if_pos hE,hE,hK] at h1
   rw [if_pos hE,if_pos hE,hK] at h2
   exact ⟨ad2,c2,h1,h2⟩
theorem St.rebase{W W1 w:World}{rs:List Au}(h:Al W W1)(hs:St W1 w rs):St W w rs:=
 ⟨h.trans hs.1,let ⟨f,h1,h2,h3⟩:=hs.2;⟨f,h1,fun b hb=>Nat.le_trans h.sz (h2 b hb),h3⟩⟩
theorem CU{l:List Int}{n:Nat}{m h:Int}(h0:Cf l n m h=0):(1≤m∧m≤64∧1≤h∧h≤64)∧(n:Int)=m*h∧Vr l=true:=by
 unfold Cf at h0
 split at h0
 ·rename_i h1
  split at h0
  ·rename_i h2
   split at h0
   ·rename_i h3;exact ⟨h1,h2,h3⟩
   cases h0
  cases h0
 cases h0
theorem Qg{l:List Int}{n:Nat}{m h:Int}(h1:1≤m∧m≤64∧1≤h∧h≤64)(h2:(n:Int)=m*h)(h3:Vr l=true):Cf l n m h=0:=by
 unfold Cf
 rw [if_pos h1,if_pos h2,if_pos h3]
theorem DE(l:List Int):Vr l=true↔∀i,i<l.length→0≤AK l i∧AK l i≤255:=BL l 0 255
theorem KI{m h:Int}:∀{L:List (List Int)},IW m h L=0→∀l∈L,Cf l l.length m h=0
 | [],_,l,hl=>by cases hl
 | x::L,h0,l,hl=>by
   rw [IW] at h0
   by_cases hx:Cf x x.length m h=0
   ·rw [if_pos hx] at h0
    rcases List.mem_cons.1 hl with rfl|hl
    ·exact hx
    exact KI h0 l hl
   rw [if_neg hx] at h0;exact absurd h0 hx
theorem Q8{m h:Int}:∀{L:List (List Int)},(∀l∈L,Cf l l.length m h=0)→IW m h L=0
 | [],_=>rfl
 | x::L,h0=>by rw [IW,if_pos (h0 x (by simp))];exact Q8 fun l hl=>h0 l (by simp [hl])
theorem IY{m h:Int}{L:List (List Int)}(h0:E9 m h L=0):(1≤m∧m≤64∧1≤h∧h≤64)∧(L.length=1∨L.length=3)∧∀l∈L,Cf l l.length m h=0:=by
 unfold E9 at h0
 split at h0
 ·rename_i h1
  split at h0
  ·rename_i h2;exact ⟨h1,h2,KI h0⟩
  cases h0
 cases h0
theorem VZ(f:Int→Int→Int→Int)(a b c:List Int):(z3 f a b c).length=a.length:=Bt _ _
theorem aL(f:Int→Int→Int→Int)(a b c:List Int)(i:Nat)(h:i<a.length):AK (z3 f a b c) i=f (AK a i) (AK b i) (AK c i):=JU _ _ _ h
theorem Ly{m h:Int}{L:List (List Int)}(f1 f2 f3:Int→Int→Int→Int)(b1:∀x y z,0≤f1 x y z∧f1 x y z≤255)(b2:∀x y z,0≤f2 x y z∧f2 x y z≤255)(b3:∀x y z,0≤f3 x y z∧f3 x y z≤255)(h0:∀l∈L,Cf l l.length m h=0):∀l∈Cc f1 f2 f3 L,Cf l l.length m h=0:=by
 unfold Cc
 split
 ·rename_i a b c
  obtain ⟨h1,h2,h3⟩:=CU (h0 a (by simp))
  have key:∀f:Int→Int→Int→Int,(∀x y z,0≤f x y z∧f x y z≤255)→Cf (z3 f a b c) (z3 f a b c).length m h=0:=fun f hf=>by
   refine Qg h1 (by rw [VZ];exact h2) ((DE _).2 fun i hi=>?_)
   rw [VZ] at hi
   rw [aL _ _ _ _ _ hi]
   exact hf _ _ _
  intro l hl
  simp only [List.mem_cons,List.not_mem_nil,or_false] at hl
  rcases hl with rfl|rfl|rfl
  ·exact key _ b1
  ·exact key _ b2
  exact key _ b3
 exact h0
theorem OV{m h:Int}{q:List Int}{L:List (List Int)}{k:Nat}(hk:k<L.length):IC m h q (L.take (k+1))=IC m h q (L.take k)++O8 q (MI L[k] m h) (Aq m h):=by
 rw [List.take_succ_eq_append_getElem hk,OU]
def TN(w0:World)(E:Int)(B:List Int)(n:Nat)(e:Ending)(w:World):Prop:=
 (E≠0→e= .returned (.tuple #[.slice none 0 0, .int .i64 E])∧Al w0 w)∧
 (E=0→∃(ao:Option Addr) (co:Nat),e= .returned (.tuple #[.slice ao n co, .int .i64 0])∧St w0 w [own 26 64 ao n co (B.map (Value.int .i64))])
theorem QC(w0:World)(a:Option Addr)(c:Nat)(R:List Rw)(m h:Int)(hP:BT w0 a c R)(hR:R.length≤9223372036854775807)(hall:∀l∈R.map (·.xs),Cf l l.length m h=0)(K:FuncId)(f1 f2 f3:Int→Int→Int→Int)(hK:C3 K f1 f2 f3):
 Calls Tryz.prog 45 #[.slice a R.length c, .func (.func K) #[] #[]] w0 (PE w0 (Cc f1 f2 f3 (R.map (·.xs)))):=by
 by_cases h3:R.length=3
 ·obtain ⟨⟨a0,c0,l0⟩,⟨a1,c1,l1⟩,⟨a2,c2,l2⟩,rfl⟩:∃x y z,R=[x,y,z]:=by
   match R,h3 with
   | [x,y,z],_=>exact ⟨x,y,z,rfl⟩
  obtain ⟨h1,e0,s0⟩:=CU (hall l0 (by simp))
  obtain ⟨_,e1,s1⟩:=CU (hall l1 (by simp))
  obtain ⟨_,e2,s2⟩:=CU (hall l2 (by simp))
  obtain ⟨k0,k1⟩:=Ds m h 64 64 (by omega) (by omega)
  have b0:=(DE l0).1 s0
  have b1:=(DE l1).1 s1
  have b2:=(DE l2).1 s2
  exact Calls.mono (Hz w0 a a0 a1 a2 c c0 c1 c2 l0.length l0 l1 l2 hP (by omega) rfl (by omega) (by omega) b0 (fun i hi=>b1 i (by omega)) (fun i hi=>b2 i (by omega)) K f1 f2 f3 hK) fun e w hh=>QD hh
 exact QE w0 a c R hP hR h3 K f1 f2 f3
theorem Ez(w0:World)(m h:Int)(hm: -9223372036854775808≤m∧m≤9223372036854775807)(a:Option Addr)(c:Nat)(R:List Rw)(hR:R.length≤9223372036854775807)(hP:BT w0 a c R)(q:List Int)(hq:Ap q 64):
 Calls Tryz.prog 19 #[.agg #[.int .i64 m, .int .i64 h, .slice a R.length c], .agg (iv q)] w0 (TN w0 (J4 m h q (R.map (·.xs))) (LC m h q (R.map (·.xs))) (R.length*Aq m h)):=by
 have hS:=St.start w0
 have HP:Hid (BT w0 a c R):=hP
 obtain ⟨N,hN⟩:∃N,R.length=N:=⟨_,rfl⟩
 have HN:=AD hN
 rw [hN] at hR
 by_cases hpe:E9 m h (R.map (·.xs))=0
 case neg=>
  obtain ⟨E,hE⟩:∃E,E9 m h (R.map (·.xs))=E:=⟨_,rfl⟩
  have h0:E≠0:=by rw [←hE];exact hpe
  have HE:=AD hE
  have HF:=AD (show J4 m h q (R.map (·.xs))=E by unfold J4;rw [if_neg hpe,hE])
  have HCK:=AD fun (w:World)(hx:Al w0 w)=>It w m h hm a c R (by rw [HN.out];exact hR) (HP.out.ext hx)
  rw [hE,hN] at HCK
  rw [hN]
  clear hP hpe hE hN
  go_enter Tryz.func19,Tryz.ntmps19
  repeat' (first
   | (refine A3 24 ?_);refine A4 AA Tryz.call24 (HCK.out _ hS.1) (Gb hS ?_);clear hS;intro w hS;go_step|refine X0 ?_|refine Yz ?_|refine X3 ?_|refine PF 2 ?_;clear hS;intro g2 w hS|refine MD 3 ?_;clear hS;intro g3 w hS|refine TG ?_|refine AG ?_;go_step|fail)
  all_goals (try exact AW)
  refine AM (xs:=[_,_]) rfl (.cons (AC.tmp rfl) (.cons (AC.tmp rfl) (.nil))) (by simp) rfl ?_
  exact ⟨fun _=>⟨by rw [HF.out];rfl,hS.1⟩,fun h=>by rw [HF.out] at h;exact absurd h h0⟩
 have HCK:=AD fun (w:World)(hx:Al w0 w)=>It w m h hm a c R (by rw [HN.out];exact hR) (HP.out.ext hx)
 rw [hpe] at HCK
 by_cases hqk:JH q=true
 case neg=>
  have hqk':JH q=false:=by simpa using hqk
  have HF:=AD (show J4 m h q (R.map (·.xs))=1 by unfold J4;rw [if_pos hpe,if_neg hqk])
  have HQ:=AD (show (if JH q then (0:Int) else 1)=1 by rw [if_neg hqk])
  rw [hN] at HCK⊢
  clear hP hpe hN hqk hqk'
  go_enter Tryz.func19,Tryz.ntmps19
  repeat' (first
   | (refine A3 24 ?_);refine A4 AA Tryz.call24 (HCK.out _ hS.1) (Gb hS ?_);clear hS;intro w hS;go_step|(refine A3 36 ?_);refine A4 AA Tryz.call36 (Cy _ q hq) ?_;rintro e w ⟨rfl,hE2⟩;rw [HQ.out];replace hS:=hS.ext hE2;clear hE2;refine Ae ?_;go_step|refine X0 ?_|refine Yz ?_|refine X3 ?_|refine PF 2 ?_;clear hS;intro g2 w hS|refine MD 3 ?_;clear hS;intro g3 w hS|refine TG ?_|refine IK ?_|refine AG ?_;go_step|fail)
  all_goals (try exact AW)
  refine AM (xs:=[_,_]) rfl (.cons (AC.tmp rfl) (.cons (AC.tmp rfl) (.nil))) (by simp) rfl ?_
  exact ⟨fun _=>⟨by rw [HF.out];rfl,hS.1⟩,fun h=>by rw [HF.out] at h;cases h⟩
 have HF:=AD (show J4 m h q (R.map (·.xs))=0 by unfold J4;rw [if_pos hpe,if_pos hqk])
 have HQ:=AD (show (if JH q then (0:Int) else 1)=0 by rw [if_pos hqk])
 obtain ⟨hok,hlen,hall⟩:=IY hpe
 rw [List.length_map,hN] at hlen
 have hN3:N≤3:=by omega
 have HT:=AD fun (w:World)(hx:Al w0 w)=>QC w a c R m h (HP.out.ext hx) (by rw [HN.out];exact hR) hall 30 NP NN NO YP
 have HA:Hid (∀l∈Cc NP NN NO (R.map (·.xs)),Cf l l.length m h=0):=Ly NP NN NO Yi Yg Yh hall
 obtain ⟨kk0,kk1⟩:=Ds ((m+7)/8) ((h+7)/8) 8 8 (by omega) (by omega)
 obtain ⟨K,hK⟩:∃K,Aq m h=K:=⟨_,rfl⟩
 have hK6:K≤64:=by rw [←hK];unfold Aq;omega
 have HB:=AD (show LC m h q (R.map (·.xs))=IC m h q (Cc NP NN NO (R.map (·.xs))) from rfl)
 obtain ⟨T,hT⟩:∃T,Cc NP NN NO (R.map (·.xs))=T:=⟨_,rfl⟩
 have hTl:T.length=N:=by rw [←hT,Ij,List.length_map,hN]
 rw [hT] at HT HA HB
 rw [hN] at HCK HT⊢
 rw [hK]
 have HK:=AD hK
 have HTL:=AD hTl
 clear hP hpe hN hqk hall hT hK hTl kk0 kk1 HN
 go_enter Tryz.func19,Tryz.ntmps19
 repeat' (first
  | (refine A3 24 ?_);refine A4 AA Tryz.call24 (HCK.out _ hS.1) (Gb hS ?_);clear hS;intro w hS;go_step|(refine A3 36 ?_);refine A4 AA Tryz.call36 (Cy _ q hq) ?_;rintro e w ⟨rfl,hE2⟩;rw [HQ.out];replace hS:=hS.ext hE2;clear hE2;refine Ae ?_;go_step|refine X0 ?_|refine Yz ?_|refine X3 ?_|refine PF 2 ?_;clear hS;intro g2 w hS|refine MD 3 ?_;clear hS;intro g3 w hS|refine TG ?_|refine IK ?_|refine AG ?_;go_step|fail)
 all_goals (try exact AW)
 repeat' (first
  | (refine A3 45 ?_);refine A4 AA Tryz.call45 (HT.out _ hS.1) ?_;rintro e w ⟨a2,c2,R2,hR2,rfl,hP2,hE2⟩;replace hS:=hS.ext hE2;clear hE2;obtain rfl:R2.length=N:=(by have h8:=congrArg List.length hR2;rw [List.length_map] at h8;rw [h8];exact HTL.out);have HR2:=AD hR2;have HP2:Hid (BT _ a2 c2 R2):=hP2;clear hR2;refine Ae ?_;go_step|refine X1 ?_|refine YE ?_|refine TU ?_|refine WX ?_|refine AG ?_;go_step|fail)
 have hg2:=(hS.blk (g:=g2) AJ).1
 have hg3:=(hS.arr (g:=g3) AJ).1
 have hc0:w.cell? ⟨g2,0,none⟩=some (.int .i64 m):=by rw [hg2.cell];rfl
 have hc1:w.cell? ⟨g2,1,none⟩=some (.int .i64 h):=by rw [hg2.cell];rfl
 have hr3:w.rangeAt g3 0 (q.map (Value.int .i64)):=hg3.range
 have hsl:=hP2.sl
 obtain ⟨N,hN⟩:∃N,R2.length=N:=⟨_,rfl⟩
 rw [hN] at hsl hlen hR hN3 HTL⊢
 have HN:=AD hN
 have HE0:Hid (Al w0 w):=hS.1
 clear hS hg2 hg3 hP2 hN
 have hS:=(St.start w).nilk 26 64 .i64
 obtain ⟨W,hW⟩:∃W,W=w:=⟨_,rfl⟩
 rw [←hW] at hc0 hc1 hr3 hsl HE0 HP2
 replace hS:St W w [own 26 64 none 0 0 (([]:List Int).map (Value.int .i64))]:=by rw [hW];exact hS
 clear hW
 obtain ⟨pb,po,rfl,hcell⟩:=EC hsl (by omega)
 have HCELL:=AD hcell
 clear hcell
 go_loopg [7,27] N (fun gk ov kv w'=>∃(k M:Nat) (ao:Option Addr) (co:Nat),gk+k=N∧M=k*K∧kv= .int .i64 k∧ov= .slice ao M co∧St W w' [own 26 64 ao M co ((IC m h q (T.take k)).map (Value.int .i64))])
 case atStart=>exact ⟨0,0,none,0,by omega,by omega,rfl,rfl,hS⟩
 case round=>
  clear hS
  obtain ⟨k,M,ao,co,hk,hM,rfl,rfl,hS⟩:=hrel
  by_cases hlt:k<N
  ·obtain ⟨r,hr⟩:∃r,R2[k]? =some r:=⟨_,List.getElem?_eq_getElem (by rw [HN.out];exact hlt)⟩
   obtain ⟨hg0,hrs,hrl⟩:=HP2.out.at hr
   have hTk:k<T.length:=by rw [HTL.out];exact hlt
   have hrx:T[k]=r.xs:=by
    have h9:T[k]? =some r.xs:=by rw [←HR2.out,List.getElem?_map,hr];rfl
    rw [List.getElem?_eq_getElem hTk] at h9
    exact Option.some.inj h9
   have hce:=HA.out T[k] (List.getElem_mem hTk)
   have hst:=OV (m:=m) (h:=h) (q:=q) hTk
   rw [hrx] at hce hst
   obtain ⟨ra,rc,rx⟩:=r
   dsimp only at hst hg0 hrs hrl hce
   obtain ⟨rn,hrn⟩:∃n,rx.length=n:=⟨_,rfl⟩
   rw [hrn] at hg0 hrs hrl hce
   rw [HK.out] at hst
   have hcl:(MI rx m h).length=K*64:=by rw [←HK.out];exact Bt _ _
   obtain ⟨C,hC⟩:∃C,MI rx m h=C:=⟨_,rfl⟩
   rw [hC] at hst hcl
   have HST:=AD hst
   have HCE:=AD hce
   have HC:=AD hC
   have HCL:=AD hcl
   have hcl0:=HCELL.out k _ hg0
   have hKk:k*K≤192:=by have:=Nat.mul_le_mul (show k≤3 by omega) hK6;omega
   clear hr hrx hce hst hC hcl hTk hg0
   obtain ⟨gk1,hgk1⟩:∃x,x=gk:=⟨_,rfl⟩
   subst hgk1
   repeat' (first
    | (refine A3 46 ?_);refine A4 AA Tryz.call46 (R6 _ ra rn rc rx m h K (by omega) (by omega) (hrs.ext hS.1) HCE.out HK.out) ?_;rintro e w ⟨ad2,c2,rfl,hS2⟩;rw [HC.out] at hS2;replace hS:=hS.call1 hS2;clear hS2;refine Ae ?_;go_step|refine X0 ?_|refine X2 ?_|refine YJ 29 ?_|refine YC ?_|refine YD ?_|refine X6 ?_|refine TF ?_|refine YH ?_|refine YG ?_|refine AG ?_;go_step|fail)
   all_goals (try exact AW)
   go_loopg [7,42] K (fun gk ov kv w'=>∃(j M2:Nat) (ao:Option Addr) (co:Nat),gk+j=K∧M2=M+j∧kv= .int .i64 j∧ov= .slice ao M2 co∧St W w' [own 26 64 ao M2 co ((IC m h q (T.take k)++O8 q C j).map (Value.int .i64)),own 26 64 ad2 K c2 (C.map (Value.int .i64))])
   case atStart=>exact ⟨0,M,ao,co,by omega,by omega,rfl,rfl,by rw [O8,List.append_nil];exact hS.sub AV⟩
   case round=>
    clear hS
    obtain ⟨j,M2,ao,co,hj,hM2,rfl,rfl,hS⟩:=hrel
    by_cases hlt2:j<K
    ·have hsgl:Ap (Bm C 64 j) 64:=CM _ _ _ K HCL.out hlt2
     obtain ⟨X,hX⟩:∃X,ce (Bm C 64 j)=X:=⟨_,rfl⟩
     have hXl:Ap X 64:=hX▸ FG _ _
     obtain ⟨Y,hY⟩:∃Y,De X q=Y:=⟨_,rfl⟩
     have hYl:Ap Y 64:=hY▸ Fw X q hXl hq
     have hYe:IC m h q (T.take k)++O8 q C (j+1)=(IC m h q (T.take k)++O8 q C j)++Y:=by
      rw [O8,←List.append_assoc];unfold ay;rw [hX,hY]
     have HX:=AD hX
     have HY:=AD hY
     have HYE:=AD hYe
     obtain ⟨b2,rfl⟩:=CE (a:=ad2) hS AJ (by omega)
     clear hX hY hYe
     repeat' (first
      | (refine A3 47 ?_);refine A4 AA Tryz.call47 (Xu _ (Bm C 64 j) hsgl) ?_;rintro e w ⟨rfl,hE⟩;rw [HX.out];replace hS:=hS.ext hE;clear hE;refine Ae ?_;go_step|(refine AS 53 ?_);refine Ag ?_;refine DV hS 26 _ rfl g3 0 rfl 64 (AP rfl) q hq hr3 ?_;refine AB ?_;go_step|(refine AS 59 ?_);refine Ag ?_;refine AU (o:=⟨some 59,_,_,_,_,_⟩) hS 42 1 _ rfl 26 64 512 Zs _ _ (AX.agg rfl (by rw [List.length_map];exact hYl) AX.nil) rfl (by decide) (by decide) ?_;clear hS;intro g59 w hS;rw [List.append_nil] at hS;have hsl59:=hS.slBlk (n:=1) (s:=64) AT.head (by rw [List.length_map];exact hYl) (by decide);refine AB ?_;go_step|(refine A3 48 ?_);refine A4 AA Tryz.call48 (Tr _ X q hXl hq) ?_;rintro e w ⟨rfl,hE⟩;rw [HY.out];replace hS:=hS.ext hE;clear hE;refine Ae ?_;go_step|refine X0 ?_|refine X2 ?_|(refine AS 44 ?_);(refine As AA (V.indexSl Tryz.underlying42 Hc rfl rfl BI (by omega) rfl BO) ?_;go_step)|refine X6 ?_|((with_reducible refine An _ (.load 26 _) ?_);first|(refine Ag ?_;apply L7 hS 26 _ rfl _ _ rfl 64 (AP rfl) _ _ _ _ _;(case hp=>exact AJ);(case hi=>omega);refine AB ?_;go_step)|(refine Ag ?_;apply H7 hS 26 _ rfl _ rfl 64 (AP rfl) _;(case hp=>exact AJ);refine AB ?_;go_step))|refine JL 13 ?_;clear hS;intro g13 w hS|refine Ew ?_;clear hS;intro w hS|refine WD 60 ?_;clear hS;intro ad60 c60 w hS|refine AG ?_;go_step|fail)
     all_goals (try exact AW)
     repeat' (first
      | refine X1 ?_|refine X7 ?_|refine AG ?_;go_step|fail)
     go_roundg (gk-1)
     case measure=>omega
     case rel=>exact ⟨j+1,_,_,_,by omega,by omega,by go_num,rfl,by rw [HYE.out];exact hS.sub AV⟩
    obtain rfl:j=K:=by omega
    repeat' (first
     | refine X2 ?_|refine AG ?_;go_step|fail)
    repeat' (first
     | refine X1 ?_|refine X7 ?_|refine AG ?_;go_step|fail)
    go_roundg (gk1-1)
    case measure=>omega
    case rel=>exact ⟨k+1,M2,ao,co,by omega,by rw [Nat.add_mul];omega,by go_num,rfl,by rw [HST.out];exact hS.sub AV⟩
  obtain rfl:k=N:=by omega
  repeat' (first
   | refine X0 ?_|refine X2 ?_|refine AG ?_;go_step|fail)
  repeat' (first
   | refine AG ?_;go_step|fail)
  refine AM (xs:=[_,_]) rfl (.cons (AC.tmp rfl) (.cons (AC.tmp rfl) (.nil))) (by simp) rfl ?_
  refine ⟨fun h=>absurd HF.out h,fun _=>⟨ao,co,by rw [HN.out,←hM];rfl,?_⟩⟩
  rw [HB.out,HN.out,←hM]
  rw [List.take_of_length_le (by rw [HTL.out];exact Nat.le_refl _)] at hS
  exact hS.rebase HE0.out
theorem YZ(c:Nat→Nat)(k:Nat):∀d,sm c k≤sm c (k+d)
 | 0=>Nat.le_refl _
 | d+1=>by have:=YZ c k d;rw [←Nat.add_assoc,sm];omega
theorem cH(c:Nat→Nat)(k:Nat)(hk:k≤16)(h:nx c 16<65536):nx c k<65536:=by
 have:=UY c k (16-k)
 rw [show k+(16-k)=16 by omega] at this
 have h2:nx c k*1≤nx c k*2^(16-k):=Nat.mul_le_mul_left _ (Nat.two_pow_pos _)
 omega
theorem O0(w0:World)(C S:List Int)(ad:Option Addr)(n c:Nat)(hC:Ap C 16)(hv:Sl w0 1 (.slice ad n c) n (S.map (Value.int .i64)))(hn:n≤9223372036854775807)(hok:BA C S=0):
 Calls Tryz.prog 134 #[tv C (.slice ad n c)] w0 fun e w=>∃a' c',e= .returned (.slice a' n c')∧St w0 w [own 197 3 a' n c' ((Rc (Bu C S)).map (Value.int .i64))]:=by
 have hSl:S.length=n:=by have:=hv.1;simpa using this
 obtain ⟨hb,h16,h256,_,_,hroom⟩:=ET hok
 rw [hSl] at h256 h16
 have hnx:=AD ((F8 _).1 hroom)
 have HSl:=AD hSl
 have HB:=AD hb
 have H16:=AD h16
 clear hSl hb h16 hroom hok
 have hS:=St.start w0
 go_enter Tryz.func134,Tryz.ntmps134
 repeat' (first
  | refine X0 ?_|refine WF ?_|refine ZX 1 ?_;clear hS;intro g1 w hS|refine WJ ?_|refine AG ?_;go_step|fail)
 replace hS:=hS.nilk 197 3 .i64
 go_loopg [3,4,9] 16 (fun gk ov nv kv w=>∃(k m q:Nat) (a':Option Addr) (c':Nat),gk+k=16∧kv= .int .i64 k∧q=nx (cc C) k∧nv= .int .i64 q∧m=sm (cc C) k∧m≤n∧ov= .slice a' m c'∧St w0 w [own 197 3 a' m c' ((Rc (S.zip (Fu (cc C) k))).map (Value.int .i64)),prt g1 [.ints C, .val (.slice ad n c)]])
 case atStart=>exact ⟨0,0,0,none,0,rfl,rfl,rfl,rfl,rfl,by omega,rfl,by rw [show Rc (S.zip (Fu (cc C) 0))=[] by simp [Fu,Rc]];exact hS.sub AV⟩
 case round=>
  clear hS
  obtain ⟨k,m,q,a',c',hk,rfl,hq,rfl,hm,hmn,rfl,hS⟩:=hrel
  by_cases hlt:k<16
  ·have hx:=HB.out k hlt
   have hci:=MH C k hx.1
   have HNx:=AD (show nx (cc C) (k+1)=2*nx (cc C) k+cc C k from rfl)
   have HSm:=AD (show sm (cc C) (k+1)=sm (cc C) k+cc C k from rfl)
   have hsl:sm (cc C) (k+1)≤n:=by have:=YZ (cc C) (k+1) (15-k);rw [show k+1+(15-k)=16 by omega,H16.out] at this;exact this
   have hnl:=cH (cc C) (k+1) (by omega) hnx.out
   have HCd:=AD (show Fu (cc C) (k+1)=Fu (cc C) k++(List.range (cc C k)).map (fun j=>(k+1,2*nx (cc C) k+j)) from rfl)
   obtain ⟨y,hy⟩:∃y,cc C k=y:=⟨_,rfl⟩
   rw [hy] at hci HNx HSm HCd
   rw [HSm.out,←hm] at hsl
   rw [HNx.out,←hq] at hnl
   have HX:=AD hci
   have HQ:=AD hq
   have HM:=AD hm
   have hy2:y≤256:=by omega
   clear hci hy hx hq hm
   repeat' (first
    | refine aZ 12 ?_|(refine AS 14 ?_);(refine Ak (.int _ (((2*q:Nat):Int))) (V.as (V.shlI rfl rfl BI (by omega) (by omega)) (by omega)) (by kernel_rfl) ?_;go_step)|refine X0 ?_|refine X2 ?_|refine AG ?_;go_step|fail)
   obtain ⟨gk1,hgk1⟩:∃x,x=gk:=⟨_,rfl⟩
   subst hgk1
   go_loopg [3,4,16] y (fun gk ov nv kv w=>∃(j M:Nat) (a':Option Addr) (c':Nat) (L:List (Nat×Nat)),gk+j=y∧M=m+j∧kv= .int .i64 j∧nv= .int .i64 (2*q+j:Nat)∧Hid (L=Fu (cc C) k++(List.range j).map (fun i=>(k+1,2*q+i)))∧ov= .slice a' M c'∧St w0 w [own 197 3 a' M c' ((Rc (S.zip L)).map (Value.int .i64)),prt g1 [.ints C, .val (.slice ad n c)]])
   case atStart=>exact ⟨0,m,a',c',_,rfl,rfl,rfl,rfl,AD rfl,rfl,by rw [List.range_zero,List.map_nil,List.append_nil];exact hS.sub AV⟩
   case round=>
    clear hS
    obtain ⟨j,M,a2,c2,L,hj,hM,rfl,rfl,HL,rfl,hS⟩:=hrel
    by_cases hlt2:j<y
    ·have HLl:Hid (L.length=M):=AD (by rw [HL.out,List.length_append,E4];simp;have:=HM.out;omega)
     have HSn:Hid (Rc (S.zip (L++[(k+1,2*q+j)]))=Rc (S.zip L)++[AK S M,((k+1:Nat):Int),((2*q+j:Nat):Int)]):=AD (by
      rw [Ve S L _ (by rw [HLl.out,HSl.out];omega),VR,HLl.out])
     have HL2:Hid (L++[(k+1,2*q+j)]=Fu (cc C) k++(List.range (j+1)).map (fun i=>(k+1,2*q+i))):=AD (by
      rw [HL.out,List.range_succ,List.map_append,List.append_assoc];rfl)
     repeat' (first
      | refine bn 26 ?_|(refine AS 32 ?_);(refine Ak (.int _ (((2*q+(j+1):Nat):Int))) (V.as (V.addI rfl rfl (by omega)) (by omega)) (by kernel_rfl) ?_;go_step)|refine X0 ?_|refine X2 ?_|refine ZD ?_|(with_reducible refine An _ (.call ⟨.builtin .len,_,_⟩) ?_);(refine As AA (V.len Tryz.underlying204 rfl) ?_;go_step)|refine Yy 23 ?_;intro b23 o23 hc23;go_step|refine X7 ?_|(refine AS 28 ?_);(refine As AA (V.build (vs:=[(0,_),(1,_),(2,_)]) rfl (Nd _ _ _)) ?_;go_step)|refine WK ?_|refine YG ?_|(refine AS 29 ?_);(refine Ag ?_;apply AU (o:=⟨some 29,_,_,_,_,_⟩) hS 204 1 _ rfl 197 3 24 YS _ _;(case hvs=>(repeat (first|exact AX.nil|(apply AX.agg;(rfl);(rfl))|(apply AX.one;exact CG;(rfl);(rfl)))));(case hn=>rfl);(case hn0=>decide);(case hns=>decide);clear hS;intro g29 w hS;simp only [List.cons_append,List.nil_append] at hS;refine AB ?_;go_step)|(refine AS 30 ?_);(refine Ag ?_;apply AO (o:=⟨some 30,_,_,_,_,_⟩) hS _ _ 204 rfl 197 3 24 YS _ _ _ _ rfl;(case hp=>exact AJ);(case hx=>exact rfl);(case hm=>(first|exact hS.slBlk AJ (by rfl) (by decide)|exact hS.sl AJ|with_reducible assumption|exact Sl.ext (by with_reducible assumption) hS.1|exact Sl.nil _ _|exact Sl.ext (by assumption) hS.1|assumption));(case h1=>(first|exact Ad rfl|exact Ac _ _|(intro u hu;cases hu)));(case h63=>unfold maxLen;omega);(case hb=>omega);clear hS;intro ad30 c30 w hS;(first|simp only [Av] at hS|simp only [Aw] at hS|simp only [Ax] at hS|simp only [Ay] at hS|simp only [Az] at hS|skip);refine AB ?_;go_step)|refine AG ?_;go_step|fail)
     go_roundg (gk-1)
     case measure=>omega
     case rel=>
      refine ⟨j+1,M+1,_,_,L++[(k+1,2*q+j)],by omega,by omega,by go_num,rfl,HL2,rfl,?_⟩
      rw [HSn.out]
      exact hS.sub AV
    obtain rfl:j=y:=by omega
    have HL3:Hid (L=Fu (cc C) (k+1)):=AD (by rw [HL.out,HCd.out,HQ.out])
    repeat' (first
     | refine X1 ?_|refine X2 ?_|refine X7 ?_|refine AG ?_;go_step|fail)
    go_roundg (gk1-1)
    case measure=>omega
    case rel=>
     refine ⟨k+1,M,2*q+j,_,_,by omega,by go_num,by rw [HNx.out,HQ.out],rfl,by rw [HSm.out,hM,HM.out],by omega,rfl,?_⟩
     rw [←HL3.out]
     exact hS.sub AV
  obtain rfl:k=16:=by omega
  have hmn2:m=n:=by rw [hm,H16.out]
  subst hmn2
  repeat' (first
   | refine X0 ?_|refine X2 ?_|refine AG ?_;go_step|fail)
  go_ret
  refine ⟨_,_,rfl,?_⟩
  unfold Bu
  exact hS.sub AV
theorem RW{W:World}{ad:Option Addr}{n c:Nat}{ns:List Int}(hv:Sl W 3 (.slice ad n c) n (ns.map (Value.int .i64)))(i:Nat)(hi:i<n):
 ∃b off,ad=some ⟨b,off,none⟩∧W.rangeAt b (off+i*3) ([AK ns (i*3),AK ns (i*3+1),AK ns (i*3+2)].map (Value.int .i64)):=by
 obtain ⟨hl,a',c',e,_,_,hor⟩:=hv
 rw [List.length_map] at hl
 cases e
 rcases hor with h|⟨b,off,rfl,hcell⟩
 ·omega
 refine ⟨b,off,rfl,fun j u hu=>?_⟩
 have hj:j<3:=by have:=(List.getElem?_eq_some_iff.1 hu).1;simpa using this
 have h1:=hcell (i*3+j) (by omega)
 rw [List.getElem?_map,Cs ns _ (by omega)] at h1
 rw [Nat.add_assoc,h1,←hu]
 rcases (show j=0∨j=1∨j=2 by omega) with rfl|rfl|rfl<;>rfl
theorem Lx(ns:List Int)(n i:Nat)(hl:ns.length=n*3)(hi:i<n):ns.take ((i+1)*3)=ns.take (i*3)++[AK ns (i*3),AK ns (i*3+1),AK ns (i*3+2)]:=by
 have g:∀j (hj:j<ns.length),AK ns j=ns[j]:=fun j hj=>by simp [AK,List.getD,hj]
 rw [show (i+1)*3=i*3+1+1+1 by omega,List.take_succ_eq_append_getElem (by omega),List.take_succ_eq_append_getElem (by omega),List.take_succ_eq_append_getElem (by omega),g _ (by omega),g _ (by omega),g _ (by omega),List.append_assoc,List.append_assoc];rfl
theorem ES(w0:World)(a b:Option Addr)(n c m d:Nat)(xs ys:List Int)(ha:Sl w0 3 (.slice a n c) n (xs.map (Value.int .i64)))(hb:Sl w0 3 (.slice b m d) m (ys.map (Value.int .i64)))(hn:n≤9223372036854775807)(hm:m≤9223372036854775807):
 Calls Tryz.prog 123 #[.slice a n c, .slice b m d] w0 fun e w=>e= .returned (.bool (decide (xs=ys)))∧Al w0 w:=by
 have hlx:xs.length=n*3:=by have:=ha.1;simpa using this
 have hly:ys.length=m*3:=by have:=hb.1;simpa using this
 have HX:=AD hlx
 have HY:=AD hly
 clear hlx hly
 have hS:=St.start w0
 by_cases hnm:n=m
 case neg=>
  have HD:=AD (show decide (xs=ys)=false by rw [decide_eq_false_iff_not];intro h;rw [h] at HX;have:=HX.out;have:=HY.out;omega)
  go_enter Tryz.func123,Tryz.ntmps123
  repeat' (first
   | refine X0 ?_|refine ZB ?_|refine IJ ?_|refine AG ?_;go_step|fail)
  all_goals (go_ret;exact ⟨(by rw [HD.out];first|done|rfl),hS.1⟩)
 subst hnm
 go_enter Tryz.func123,Tryz.ntmps123
 repeat' (first
  | refine X0 ?_|refine ZB ?_|refine IJ ?_|refine AG ?_;go_step|fail)
 go_loopg [13] n (fun gk kv w=>∃k:Nat,gk+k=n∧kv= .int .i64 k∧Hid (xs.take (k*3)=ys.take (k*3))∧St w0 w [])
 case atStart=>exact ⟨0,rfl,rfl,AD rfl,hS.sub AV⟩
 case round=>
  clear hS
  obtain ⟨k,hk,rfl,HP,hS⟩:=hrel
  by_cases hlt:k<n
  ·obtain ⟨ba,oa,rfl,hra⟩:=RW ha k hlt
   obtain ⟨bb,ob,rfl,hrb⟩:=RW hb k hlt
   have HT1:=AD (Lx xs n k HX.out hlt)
   have HT2:=AD (Lx ys n k HY.out hlt)
   obtain ⟨x0,hx0⟩:∃x,AK xs (k*3)=x:=⟨_,rfl⟩
   obtain ⟨x1,hx1⟩:∃x,AK xs (k*3+1)=x:=⟨_,rfl⟩
   obtain ⟨x2,hx2⟩:∃x,AK xs (k*3+2)=x:=⟨_,rfl⟩
   obtain ⟨y0,hy0⟩:∃x,AK ys (k*3)=x:=⟨_,rfl⟩
   obtain ⟨y1,hy1⟩:∃x,AK ys (k*3+1)=x:=⟨_,rfl⟩
   obtain ⟨y2,hy2⟩:∃x,AK ys (k*3+2)=x:=⟨_,rfl⟩
   rw [hx0,hx1,hx2] at hra HT1
   rw [hy0,hy1,hy2] at hrb HT2
   clear hx0 hx1 hx2 hy0 hy1 hy2
   have hl3:Ap [x0,x1,x2] 3:=rfl
   have hm3:Ap [y0,y1,y2] 3:=rfl
   repeat' (first
    | refine X0 ?_|refine X2 ?_|refine AG ?_;go_step|fail)
   refine AQ [] (fun w=>St w0 w []) AA ?_
   replace hS:=hS.drew
   focus
    refine Ab 0 ?_
    refine Ab 1 ?_
    refine Bf 2 BU (V.indexSl Tryz.underlying141 MZ rfl rfl BI (by omega) rfl BO) ?_;go_step
    apply Cb 3 Am AA AA AA Ch [8] AA (hS.sub AV)
    case hfr=>intro w hS;((refine Ag ?_;apply L9 hS 155 _ rfl _ _ rfl 3 (AP rfl) _;(case hc=>with_reducible assumption);(case hn=>rfl);refine AB ?_;go_step));refine wpList_nil ?_;exact ⟨rfl,rfl⟩
    case hd=>rfl
    refine Ab 4 ?_
    refine Ab 5 ?_
    refine Bf 6 BU (V.indexSl Tryz.underlying141 MZ rfl rfl BI (by omega) rfl BO) ?_;go_step
    apply Cb 7 Am AA AA AA Ch [8] AA (hS.sub AV)
    case hfr=>intro w hS;((refine Ag ?_;apply DV hS 155 _ rfl _ _ rfl 3 (AP rfl) _;(case hl=>with_reducible assumption);(case hr=>with_reducible assumption);refine AB ?_;go_step));refine wpList_nil ?_;exact ⟨rfl,rfl⟩
    case hd=>rfl
    refine Bf 8 BU (V.neqA Zv rfl rfl (by (repeat (first|assumption|exact Ap.rep|apply Ap.set|((with_reducible show Ap (_::_) _);exact rfl)))) (by (repeat (first|assumption|exact Ap.rep|apply Ap.set|((with_reducible show Ap (_::_) _);exact rfl))))) ?_;go_step
    refine AE AA ?_ _
   all_goals
    by_cases he:[x0,x1,x2]=[y0,y1,y2]
    ·have HE2:Hid (xs.take ((k+1)*3)=ys.take ((k+1)*3)):=AD (by rw [HT1.out,HT2.out,HP.out,he])
     have hd:decide ([x0,x1,x2]≠[y0,y1,y2])=false:=by simpa using he
     rw [hd]
     clear he hd
     repeat' (first
      | refine X1 ?_|refine X7 ?_|refine AG ?_;go_step|fail)
     go_roundg (gk-1)
     case measure=>omega
     case rel=>exact ⟨k+1,by omega,by go_num,HE2,hS.sub AV⟩
    have HD:=AD (show decide (xs=ys)=false by
     rw [decide_eq_false_iff_not];intro h
     have h1:=HT1.out
     have h2:=HT2.out
     rw [h] at h1
     rw [h1,←h,HP.out] at h2
     exact he (List.append_cancel_left h2))
    have hd:decide ([x0,x1,x2]≠[y0,y1,y2])=true:=decide_eq_true he
    rw [hd]
    clear he hd
    repeat' (first
     | refine X8 ?_|refine AG ?_;go_step|fail)
    go_ret
    exact ⟨(by rw [HD.out];first|done|rfl),hS.1⟩
  obtain rfl:k=n:=by omega
  have HD:=AD (show decide (xs=ys)=true by
   rw [decide_eq_true_eq]
   have:=HP.out
   rwa [List.take_of_length_le (by rw [HX.out];exact Nat.le_refl _),List.take_of_length_le (by rw [HY.out];exact Nat.le_refl _)] at this)
  repeat' (first
   | refine X8 ?_|refine X2 ?_|refine AG ?_;go_step|fail)
  go_ret
  exact ⟨(by rw [HD.out];first|done|rfl),hS.1⟩
end Go.Proofs.YtohacgmhmbijmaaGreatDoor
