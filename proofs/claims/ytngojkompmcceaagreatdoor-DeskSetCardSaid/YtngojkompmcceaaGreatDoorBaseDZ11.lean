/- What the laws DeskFront DeskErrors DeskSet need, part 11. -/
import Derived.Test.YtngojkompmcceaaGreatDoorBaseDZ2
import Derived.Test.YtngojkompmcceaaGreatDoorBaseDZ9
import Derived.Test.YtngojkompmcceaaGreatDoorBaseDZ10
import Derived.Lib.ItoaWalk
import Derived.Laws.RangeString
import Derived.Laws.Runes
import Derived.Laws.Slices
namespace Go.Proofs.YtngojkompmcceaaGreatDoor
attribute [local irreducible] Region.wanted
open Go.ChangeShapes Go.WideShapes Go.ChangeAt Go.RowKit Go.Deep
set_option linter.unusedVariables false
set_option maxRecDepth 100000
set_option maxHeartbeats 8000000
theorem Ly{W:World}{a:Addr}{len cap:Nat}(hl:len≤cap)(hm:cap≤maxLen)(V:Nat→Value)(hV:∀i,i<len→W.cell? (a.add i)=some (V i)):Sl W 1 (.slice (some a) len cap) len ((List.range len).map V):=by
 refine ⟨by simp,some a,cap,rfl,hl,hm,?_⟩
 rcases Nat.eq_zero_or_pos len with h0|h0
 ·exact .inl h0
 refine .inr ?_
 have hc0:=hV 0 h0
 have hspot:a.spot=none:=by
  rw [show a.add 0=a from rfl] at hc0
  unfold World.cell? at hc0
  split at hc0
  ·split at hc0
   ·cases hc0
   rename_i hh;simpa using hh
  cases hc0
 refine ⟨a.block,a.off,by cases a;simp at hspot;simp [hspot],fun i hi=>?_⟩
 rw [Nat.mul_one] at hi
 have hci:=hV i hi
 have haddr:a.add i=⟨a.block,a.off+i,none⟩:=by
  unfold Addr.add
  split
  ·rename_i h0;subst h0;cases a;simp at hspot;simp [hspot]
  rfl
 rw [haddr] at hci
 rw [hci]
 simp [hi]
theorem Ib{H:Type}{enc:TypeId×Value→H}{W:World}{v:Value}{d:DataW H}{p:List MemPlace}{base:Nat}(ho:Value.okWide Tryz.prog W .any base 22 v)(h:DataW.Trod enc Tryz.prog W 0 (fun _=>true) true 22 v d p):
 ∃(n:Nat) (L:List ByteArray) (ad:Option Addr) (c:Nat),L.length=n∧v= .slice ad n c∧n≤c∧c≤9223372036854775807∧Sl W 1 (.slice ad n c) n (L.map Value.string)∧n≤Rows.uptoBulk d:=by
 have hT:=h
 obtain ⟨fuel,h⟩:=h
 have hvc:v.cells.toList=[v]:=by
  unfold Value.okWide at ho
  rw [Tryz.underlying22] at ho
  dsimp only at ho
  unfold Cell.okWide at ho
  rw [Tryz.underlying22] at ho
  dsimp only at ho
  unfold Cell.ok at ho
  rw [Tryz.underlying22] at ho
  cases v<;>first|rfl|exact absurd ho (by simp)
 rw [hvc] at h
 rcases open_slice1 Tryz.underlying22 AA h with ⟨h0,_⟩|⟨a,len,cap,m,n,V,D,Pl,hcs,_,hl,hm,hmm,_,hV⟩
 ·obtain rfl:v= .slice none 0 0:=by simpa using h0
  exact ⟨0,[],none,0,rfl,rfl,by omega,by omega,Sl.nil W 1,by omega⟩
 obtain rfl:v= .slice (some a) len cap:=by simpa using hcs
 have hmc:m=cap:=by simpa using hmm
 subst hmc
 have each:∀i,i<len→∃r:ByteArray,V i= .string r:=by
  intro i hi
  obtain ⟨h1,h2⟩:=hV i (by omega)
  obtain ⟨s,hs,_⟩:=DataW.trod_string Tryz.underlying9 h2
  exact ⟨s,by simpa using hs⟩
 obtain ⟨f,hf⟩:=choose_lt each
 refine ⟨len,(List.range len).map f,some a,m,by simp,rfl,hl,by unfold maxLen at hm;exact hm,?_,KI Tryz.underlying22 hT⟩
 rw [List.map_map]
 have e:(List.range len).map (Value.string ∘ f)=(List.range len).map V:=List.map_congr_left fun i hi=>(hf i (List.mem_range.1 hi)).symm
 rw [e]
 exact Ly hl hm V fun i hi=>(hV i (by omega)).1
end Go.Proofs.YtngojkompmcceaaGreatDoor
namespace Go.Proofs.YtngojkompmcceaaGreatDoor
attribute [local irreducible] Region.wanted
open Go.Lib
set_option linter.unusedVariables false
set_option maxRecDepth 100000
set_option maxHeartbeats 8000000
theorem FY(k:Nat)(h:k<10):(UInt8.ofNat (48+k)).toNat=48+k:=by
 rw [UInt8.toNat_ofNat'];omega
theorem Cu:∀(u:Nat)(b:UInt8),b∈decDigits u→48≤b.toNat∧b.toNat≤57:=by
 intro u
 induction u using Nat.strongRecOn with
 | _ u ih=>
   intro b hb
   by_cases h:u<10
   ·rw [decDigits,dif_pos h] at hb
    simp only [List.mem_singleton] at hb
    subst hb
    rw [FY u h]
    omega
   rw [decDigits,dif_neg h,List.mem_append] at hb
   rcases hb with hb|hb
   ·exact ih _ (by omega) b hb
   simp only [List.mem_singleton] at hb
   subst hb
   rw [FY _ (by omega)]
   omega
theorem DF(u:Nat):decDigits u≠[]:=by
 intro h
 have h1:=decDigits_length u
 have h2:=nDigits_pos u
 rw [h] at h1
 simp at h1
 omega
theorem JL(n:Int)(b:UInt8)(h:b∈itoa n):b.toNat=45∨48≤b.toNat∧b.toNat≤57:=by
 unfold itoa at h
 split at h
 ·rcases List.mem_cons.1 h with h|h
  ·subst h;exact .inl rfl
  exact .inr (Cu _ _ h)
 exact .inr (Cu _ _ h)
theorem IV(n:Int):itoa n≠[]:=by
 unfold itoa
 split
 ·simp
 exact DF _
theorem Hk(c:UInt8):∀(l:List UInt8)(acc u:Nat),parseUint10 acc l= .ok u→parseUint10 acc (l++[c])=parseUint10 u [c]
 | [],acc,u,h=>by
   simp only [parseUint10] at h
   injection h with h
   subst h
   rfl
 | x::l,acc,u,h=>by
   rw [parseUint10] at h
   rw [List.cons_append,parseUint10]
   split at h
   ·rename_i h1
    rw [if_pos h1]
    split at h
    ·cases h
    rename_i h2
    rw [if_neg h2]
    split at h
    ·cases h
    rename_i h3
    rw [if_neg h3]
    exact Hk c l _ u h
   cases h
theorem Hl(u:Nat)(hu:u<1000000000):parseUint10 0 (decDigits u)= .ok u:=by
 induction u using Nat.strongRecOn with
 | _ u ih=>
   by_cases h:u<10
   ·rw [decDigits,dif_pos h]
    simp only [parseUint10,FY u h]
    rw [if_pos (by omega),if_neg (by omega),if_neg (by omega)]
    congr 1
    omega
   rw [decDigits,dif_neg h,Hk _ _ _ _ (ih (u/10) (by omega) (by omega))]
   simp only [parseUint10,FY (u%10) (by omega)]
   rw [if_pos (by omega),if_neg (by omega),if_neg (by omega)]
   congr 1
   omega
theorem LE(n:Int)(h: -1000000000<n∧n<1000000000):atoiAll (itoa n)= .ok n:=by
 unfold itoa
 split
 ·rename_i hn
  unfold atoiAll
  simp only
  rw [if_pos (.inr rfl),parseMag,if_neg (DF _),Hl _ (by omega)]
  simp only
  rw [if_neg (by intro hh;exact hh.1 rfl),if_neg (by omega),if_pos (show UInt8.toNat 45=45 from rfl)]
  congr 1
  omega
 rename_i hn
 have hm:=Cu n.toNat
 have hp:=Hl n.toNat (by omega)
 have hz:=DF n.toNat
 generalize decDigits n.toNat=l at hm hp hz
 cases l with
 | nil=>exact absurd rfl hz
 | cons c r=>
   have hc:=hm c (List.mem_cons_self ..)
   unfold atoiAll
   simp only
   rw [if_neg (by omega),parseMag,if_neg hz,hp]
   simp only
   rw [if_neg (by omega),if_neg (by omega),if_neg (by omega)]
   congr 1
   omega
theorem CC:∀(k u:Nat),u<10^(k+1)→nDigits u≤k+1
 | 0,u,h=>by rw [nDigits_small (by simpa using h)];exact Nat.le_refl _
 | k+1,u,h=>by
   by_cases h2:u<10
   ·rw [nDigits_small h2];omega
   rw [nDigits_big h2]
   have:=CC k (u/10) (by rw [Nat.pow_succ] at h;omega)
   omega
theorem Hf(n:Int):(Aa n).data.toList=itoa n:=rfl
theorem L9(n:Int)(h: -1000000000<n∧n<1000000000):(H3 (Aa n)).size≤9:=by
 unfold H3
 rw [Hf]
 rw [show ∀l:List UInt8,(⟨l.toArray⟩:ByteArray).size=l.length from fun l=>by simp [ByteArray.size]]
 unfold itoa
 split
 ·have e:trimPrefix (45::decDigits n.natAbs) [45]=decDigits n.natAbs:=rfl
  rw [e,decDigits_length]
  exact CC 8 _ (by omega)
 refine Nat.le_trans (trimPrefix_le _ _) ?_
 rw [decDigits_length]
 exact CC 8 _ (by omega)
theorem Hi(n:Int)(h: -1000000000<n∧n<1000000000):D1 (Aa n)=some n:=by
 unfold D1
 rw [Hf,LE n h]
 simp only
 rw [if_pos ⟨trivial,L9 n h⟩]
def Wd(l:List UInt8):Prop:=∀b∈l,b.toNat<128∧b.toNat≠32
theorem Kq(n:Int):Wd (itoa n):=fun b hb=>by have:=JL n b hb;omega
def Hu:Nat→Bool:=fun c=>decide (c=32)
theorem Kl(s:ByteArray)(p:Nat)(b:UInt8)(h:s.data.toList[p]? =some b)(h2:b.toNat<128):p<s.size∧Utf8.decode s p=(b.toNat,1):=by
 have hp:p<s.size:=by
  rw [size_eq]
  exact (List.getElem?_eq_some_iff.1 h).1
 have e:s[p]=b:=by rw [getD_at,List.getD_eq_getElem?_getD,h];rfl
 refine ⟨hp,?_⟩
 rw [decode_ascii s p hp (by rw [e];exact h2),e]
theorem Ht(s:ByteArray)(f p:Nat)(st:Option Nat)(acc:List (Nat×Nat)):spansFromP Hu s (f+1) p st acc=if p<s.size then (if Hu (Utf8.decode s p).1 then (match st with|some a=>spansFromP Hu s f (p+(Utf8.decode s p).2) none (acc++[(a,p)])|none=>spansFromP Hu s f (p+(Utf8.decode s p).2) none acc) else (match st with|some a=>spansFromP Hu s f (p+(Utf8.decode s p).2) (some a) acc|none=>spansFromP Hu s f (p+(Utf8.decode s p).2) (some p) acc)) else (acc,st):=by cases st<;>rfl
theorem Jb(s:ByteArray)(f p:Nat)(a:Nat)(acc:List (Nat×Nat))(h:s.data.toList[p]? =some 32):spansFromP Hu s (f+1) p (some a) acc=spansFromP Hu s f (p+1) none (acc++[(a,p)]):=by
 obtain ⟨h1,h2⟩:=Kl s p 32 h (by decide)
 rw [Ht,if_pos h1,h2]
 rfl
theorem Kx(s:ByteArray)(f p:Nat)(st:Option Nat)(acc:List (Nat×Nat))(b:UInt8)(h:s.data.toList[p]? =some b)(hb:b.toNat<128∧b.toNat≠32):spansFromP Hu s (f+1) p st acc=spansFromP Hu s f (p+1) (some (st.getD p)) acc:=by
 obtain ⟨h1,h2⟩:=Kl s p b h hb.1
 rw [Ht,if_pos h1,h2]
 have e:Hu b.toNat=false:=by unfold Hu;simp [hb.2]
 simp only [e]
 cases st<;>rfl
theorem Nj(s:ByteArray)(f:Nat)(acc:List (Nat×Nat))(a:Nat):∀(k p:Nat),(∀i,i<k→∃b,s.data.toList[p+i]? =some b∧b.toNat<128∧b.toNat≠32)→spansFromP Hu s (f+k) p (some a) acc=spansFromP Hu s f (p+k) (some a) acc
 | 0,p,_=>rfl
 | k+1,p,h=>by
   obtain ⟨b,hb,hc⟩:=h 0 (by omega)
   rw [←Nat.add_assoc,Kx s (f+k) p (some a) acc b hb hc]
   have:=Nj s f acc a k (p+1) fun i hi=>by
    have:=h (i+1) (by omega)
    rwa [show p+(i+1)=p+1+i by omega] at this
   rw [show p+(k+1)=p+1+k by omega]
   exact this
theorem GQ(s:ByteArray)(f:Nat)(acc:List (Nat×Nat))(k p:Nat)(hk:0<k)(h:∀i,i<k→∃b,s.data.toList[p+i]? =some b∧b.toNat<128∧b.toNat≠32):spansFromP Hu s (f+k) p none acc=spansFromP Hu s f (p+k) (some p) acc:=by
 obtain ⟨k,rfl⟩:∃j,k=j+1:=⟨k-1,by omega⟩
 obtain ⟨b,hb,hc⟩:=h 0 (by omega)
 rw [←Nat.add_assoc,Kx s (f+k) p none acc b hb hc]
 have:=Nj s f acc p k (p+1) fun i hi=>by
  have:=h (i+1) (by omega)
  rwa [show p+(i+1)=p+1+i by omega] at this
 rw [show p+(k+1)=p+1+k by omega]
 exact this
theorem P2(A B C:List UInt8)(hA:Wd A)(hB:Wd B)(hC:Wd C)(a0:A≠[])(b0:B≠[])(c0:C≠[]):Aq ⟨(A++32::(B++32::C)).toArray⟩=[⟨A.toArray⟩,⟨B.toArray⟩,⟨C.toArray⟩]:=by
 have ha:0<A.length:=List.length_pos_iff.2 a0
 have hb:0<B.length:=List.length_pos_iff.2 b0
 have hc:0<C.length:=List.length_pos_iff.2 c0
 obtain ⟨s,hs⟩:∃s:ByteArray,s=⟨(A++32::(B++32::C)).toArray⟩:=⟨_,rfl⟩
 have hl:s.data.toList=A++32::(B++32::C):=by rw [hs]
 have hz:s.size=0+C.length+1+B.length+1+A.length:=by rw [size_eq,hl];simp;omega
 rw [←hs]
 have gA:∀i,i<A.length→∃b,s.data.toList[0+i]? =some b∧b.toNat<128∧b.toNat≠32:=fun i hi=>by
  refine ⟨A[i],?_,hA _ (List.getElem_mem hi)⟩
  rw [hl,Nat.zero_add,List.getElem?_append_left hi,List.getElem?_eq_getElem hi]
 have g1:s.data.toList[A.length]? =some 32:=by rw [hl,List.getElem?_append_right (Nat.le_refl _)];simp
 have gB:∀i,i<B.length→∃b,s.data.toList[A.length+1+i]? =some b∧b.toNat<128∧b.toNat≠32:=fun i hi=>by
  refine ⟨B[i],?_,hB _ (List.getElem_mem hi)⟩
  rw [hl,List.getElem?_append_right (by omega),show A.length+1+i-A.length=i+1 by omega,List.getElem?_cons_succ,List.getElem?_append_left hi,List.getElem?_eq_getElem hi]
 have g2:s.data.toList[A.length+1+B.length]? =some 32:=by
  rw [hl,List.getElem?_append_right (by omega),show A.length+1+B.length-A.length=B.length+1 by omega,List.getElem?_cons_succ,List.getElem?_append_right (Nat.le_refl _)];simp
 have gC:∀i,i<C.length→∃b,s.data.toList[A.length+1+B.length+1+i]? =some b∧b.toNat<128∧b.toNat≠32:=fun i hi=>by
  refine ⟨C[i],?_,hC _ (List.getElem_mem hi)⟩
  rw [hl,List.getElem?_append_right (by omega),show A.length+1+B.length+1+i-A.length=B.length+1+i+1 by omega,List.getElem?_cons_succ,List.getElem?_append_right (by omega),show B.length+1+i-B.length=i+1 by omega,List.getElem?_cons_succ,List.getElem?_eq_getElem hi]
 show goFieldsP Hu s=_
 have e:spansOfP Hu s=[(0,A.length),(A.length+1,A.length+1+B.length),(A.length+1+B.length+1,s.size)]:=by
  unfold spansOfP
  rw [show spansFromP Hu s s.size 0 none []=spansFromP Hu s (0+C.length+1+B.length+1+A.length) 0 none [] by rw [←hz]]
  rw [GQ s _ [] A.length 0 ha gA,show 0+A.length=A.length from Nat.zero_add _,Jb s _ _ _ _ g1,GQ s _ _ B.length _ hb gB,Jb s _ _ _ _ g2,GQ s _ _ C.length _ hc gC]
  rfl
 unfold goFieldsP
 rw [e]
 simp only [List.map_cons,List.map_nil,extract_eq,hl]
 have p1:((A++32::(B++32::C)).drop 0).take (A.length-0)=A:=by simp
 have p2:((A++32::(B++32::C)).drop (A.length+1)).take (A.length+1+B.length-(A.length+1))=B:=by
  rw [show A++32::(B++32::C)=(A++[32])++(B++32::C) by simp,show A.length+1=(A++[32]).length by simp,List.drop_left,Nat.add_sub_cancel_left,List.take_left]
 have p3:((A++32::(B++32::C)).drop (A.length+1+B.length+1)).take (s.size-(A.length+1+B.length+1))=C:=by
  rw [show A++32::(B++32::C)=(A++[32]++B++[32])++C by simp,show A.length+1+B.length+1=(A++[32]++B++[32]).length by (simp;omega),List.drop_left,List.take_of_length_le]
  rw [hz];simp;omega
 rw [p1,p2,p3]
def Qd:ByteArray:=⟨#[101,114,114,111,114,32]⟩
def Cm(s:ByteArray):Bool:=decide (6≤s.size)&&decide (s.extract 0 6=Qd)
theorem Bu(a b:ByteArray):(a++b).data.toList=a.data.toList++b.data.toList:=by simp
theorem J4(e:Int):Cm (E5 e)=true:=by
 unfold Cm
 have hl:(E5 e).data.toList=[101,114,114,111,114,32]++itoa e:=by unfold E5;rw [Bu];rfl
 have hz:6≤(E5 e).size:=by rw [size_eq,hl];simp
 have hx:(E5 e).extract 0 6=Qd:=by rw [extract_eq,hl];rfl
 simp [hz,hx]
def Nh(s:ByteArray):Prop:=s.data.toList.head? ≠some 101
theorem J5(s:ByteArray)(h:Nh s):Cm s=false:=by
 unfold Cm
 have:s.extract 0 6≠Qd:=by
  intro hx
  have h2:(s.extract 0 6).data.toList=Qd.data.toList:=by rw [hx]
  rw [extract_data,List.drop_zero] at h2
  unfold Nh at h
  cases hs:s.data.toList with
  | nil=>rw [hs] at h2;cases h2
  | cons x r=>
    rw [hs] at h2 h
    injection h2 with h3 _
    exact h (by rw [h3];rfl)
 simp [this]
theorem PP:Nh nl:=by unfold Nh;decide
theorem Qj:Nh Jp:=by unfold Nh;decide
theorem Oy(l:List Int):Nh (BN l):=by
 unfold BN Nh
 cases l with
 | nil=>decide
 | cons x r=>
   rw [if_neg (by simp)]
   simp only [List.map_cons]
   rw [join_cons]
   cases hx:itoa x with
   | nil=>exact absurd hx (IV x)
   | cons c t=>
     rw [show (Aa x).data.toList=c::t from hx]
     have:=JL x c (by rw [hx];exact List.mem_cons_self ..)
     simp only [List.cons_append,List.head?_cons]
     intro h
     injection h with h
     subst h
     revert this
     decide
theorem Pv(bst:List Int→Int)(c:FP)(D:Dk)(n:List Int):Nh (DZ bst c D n).1.1:=by
 cases c<;>simp only [DZ,EL,BC,I5,DM,C6,D3]
 all_goals (repeat' split)
 all_goals (first|exact PP|exact Qj|exact Oy _)
theorem Ox(bst:List Int→Int)(D:Dk)(s:ByteArray):Nh (Am bst D s).1.1:=by
 unfold Am
 repeat' split
 all_goals (first|exact PP|exact Pv _ _ _ _)
theorem OZ(bst:List Int→Int)(D:Dk)(s:ByteArray):Cm (Fj (Am bst D s))=decide ((Am bst D s).1.2≠0):=by
 unfold Fj
 split
 ·rename_i h
  rw [J4,decide_eq_true h]
 rename_i h
 rw [J5 _ (Ox _ _ _),decide_eq_false h]
def F7(L A:List ByteArray):List (ByteArray×ByteArray):=(L.zip A).filter fun p=>!Cm p.2
theorem JM(bst:List Int→Int):∀(L:List ByteArray)(D:Dk),Bq bst D ((F7 L (Bq bst D L)).map (·.1))=(F7 L (Bq bst D L)).map (·.2)
 | [],D=>rfl
 | s::L,D=>by
   have ih:=JM bst L (Am bst D s).2
   have ha:=OZ bst D s
   have hr:Bq bst D (s::L)=Fj (Am bst D s)::Bq bst (Am bst D s).2 L:=rfl
   rw [hr]
   unfold F7 at ih⊢
   rw [List.zip_cons_cons,List.filter_cons]
   simp only [ha]
   by_cases he:(Am bst D s).1.2≠0
   ·rw [decide_eq_true he]
    simp only [Bool.not_true,Bool.false_eq_true,if_false]
    rw [Ld bst D s he] at ih⊢
    exact ih
   rw [decide_eq_false he]
   simp only [Bool.not_false,if_true,List.map_cons]
   rw [Bq,ih]
theorem JN(L A:List ByteArray):(F7 L A).length≤L.length:=by
 unfold F7
 refine Nat.le_trans (List.length_filter_le _ _) ?_
 rw [List.length_zip]
 omega
theorem NJ(L A:List ByteArray)(s:ByteArray)(h:s∈(F7 L A).map (·.1)):s∈L:=by
 obtain ⟨p,hp,rfl⟩:=List.mem_map.1 h
 exact (List.of_mem_zip (List.mem_filter.1 hp).1).1
theorem Lb(L A:List ByteArray)(k:Nat)(s a:ByteArray)(hs:L[k]? =some s)(ha:A[k]? =some a):F7 (L.take (k+1)) (A.take (k+1))=F7 (L.take k) (A.take k)++(if Cm a then [] else [(s,a)]):=by
 unfold F7
 rw [show ∀j,(L.take j).zip (A.take j)=(L.zip A).take j from fun j=>List.take_zipWith.symm,show ∀j,(L.take j).zip (A.take j)=(L.zip A).take j from fun j=>List.take_zipWith.symm,List.take_add_one,List.filter_append]
 congr 1
 have:(L.zip A)[k]? =some (s,a):=List.getElem?_zip_eq_some.2 ⟨hs,ha⟩
 rw [this]
 simp only [Option.toList,List.filter_cons,List.filter_nil]
 cases Cm a<;>rfl
def Hr(a n:Int):ByteArray:=⟨([115,101,116]++32::(itoa a++32::itoa n)).toArray⟩
def QJ(a n:Int):List ByteArray:=[Hr a n,⟨#[115,104,111,119]⟩,⟨#[99,111,97,114,115,101,32,49]⟩,⟨#[117,112]⟩]
def MW(a:Nat)(n:Int):List Int:=(List.replicate 64 0).set a n
theorem KH(bst:List Int→Int)(a:Nat)(n:Int)(ha:a<8)(hn: -40000≤n∧n≤40000):Am bst BG (Hr a n)=((Jp,0),⟨MW a n,List.replicate 64 1⟩):=by
 have hw:Aq (Hr a n)=[⟨#[115,101,116]⟩,Aa a,Aa n]:=P2 [115,101,116] (itoa a) (itoa n) (by intro b hb;revert b;decide) (Kq _) (Kq _) (by simp) (IV _) (IV _)
 have hc:Da ⟨#[115,101,116]⟩=some .kSet:=by kernel_rfl
 have hm:CJ FP.kSet.many [Aa (a:Int),Aa n].length=true:=rfl
 have hN:Bk [Aa (a:Int),Aa n]=some [(a:Int),n]:=by
  simp only [Bk,Hi (a:Int) (by omega),Hi n (by omega),Option.map]
 unfold Am
 rw [hw]
 simp only [hc,hm,hN,if_true]
 show EL BG [(a:Int),n]=_
 unfold EL
 have e0:AG [(a:Int),n] 0=a:=rfl
 have e1:AG [(a:Int),n] 1=n:=rfl
 rw [e0,e1,if_neg (by omega),if_neg (by omega),Int.toNat_natCast]
 rfl
theorem Ni(bst:List Int→Int)(a:Nat)(n:Int)(ha:a<8)(hn: -40000≤n∧n≤40000):Bq bst BG (QJ a n)=[Jp,BN ((MW a n).take 8),Jp,if -2047≤n∧n≤2047 then Jp else E5 1]:=by
 have h2:∀D:Dk,Am bst D ⟨#[115,104,111,119]⟩=((BN (D.b.take 8),0),D):=fun D=>by
  have hw:Aq ⟨#[115,104,111,119]⟩=[⟨#[115,104,111,119]⟩]:=by kernel_rfl
  have hc:Da ⟨#[115,104,111,119]⟩=some .kShow:=by kernel_rfl
  unfold Am
  rw [hw]
  simp only [hc,show CJ FP.kShow.many ([]:List ByteArray).length=true from rfl,if_true,Bk]
  rfl
 have h3:∀D:Dk,Am bst D ⟨#[99,111,97,114,115,101,32,49]⟩=((Jp,0),⟨D.b,List.replicate 64 1⟩):=fun D=>by
  have hw:Aq ⟨#[99,111,97,114,115,101,32,49]⟩=[⟨#[99,111,97,114,115,101]⟩,⟨#[49]⟩]:=by kernel_rfl
  have hc:Da ⟨#[99,111,97,114,115,101]⟩=some .kCoarse:=by kernel_rfl
  have hN:Bk [⟨#[49]⟩]=some [1]:=by kernel_rfl
  unfold Am
  rw [hw]
  simp only [hc,show CJ FP.kCoarse.many ([⟨#[49]⟩]:List ByteArray).length=true from rfl,if_true,hN]
  show BC D [1]=_
  unfold BC
  rw [show KC (List.replicate 64 (AG [1] 0))=true by kernel_rfl,if_pos rfl]
  rfl
 have h4:∀D:Dk,Am bst D ⟨#[117,112]⟩=I5 D (It D.b D.q) (MX D.b D.q):=fun D=>by
  have hw:Aq ⟨#[117,112]⟩=[⟨#[117,112]⟩]:=by kernel_rfl
  have hc:Da ⟨#[117,112]⟩=some .kUp:=by kernel_rfl
  unfold Am
  rw [hw]
  simp only [hc,show CJ FP.kUp.many ([]:List ByteArray).length=true from rfl,if_true,Bk]
  rfl
 have hE:MX (MW a n) (List.replicate 64 1)=if -2047≤n∧n≤2047 then 0 else 1:=by
  unfold MX
  rw [show KC (List.replicate 64 1)=true by kernel_rfl,Bool.true_and]
  have hi:(BM (MW a n) (-2047) 2047=true)↔(-2047≤n∧n≤2047):=by
   rw [BV]
   have hl:(MW a n).length=64:=by unfold MW;simp
   constructor
   ·intro h
    have:=h a (by omega)
    unfold MW at this
    rwa [EJ _ _ _ (by simp;omega)] at this
   intro h i hi
   unfold MW
   by_cases hia:i=a
   ·subst hia
    rw [EJ _ _ _ (by simp;omega)]
    exact h
   rw [GB _ _ _ _ (by omega),Kt _ _ _ (by omega)]
   omega
  by_cases h: -2047≤n∧n≤2047
  ·rw [if_pos (hi.2 h),if_pos h]
  rw [if_neg (fun hh=>h (hi.1 hh)),if_neg h]
 unfold QJ
 simp only [Bq,KH bst a n ha hn,h2,h3,h4,hE]
 have e1:∀D:Dk,∀x:ByteArray,Fj ((x,0),D)=x:=fun D x=>rfl
 simp only [e1]
 congr 4
 by_cases h: -2047≤n∧n≤2047
 ·rw [if_pos h,if_pos h];rfl
 rw [if_neg h,if_neg h];rfl
def FN(l:List Int):ByteArray:=⟨(join (l.map itoa) [32]).toArray⟩
theorem L7(l:List Int)(h:l.length≠0):BN l=FN l:=by
 unfold BN FN
 rw [if_neg h,List.map_map]
 rfl
theorem La(l:List (List UInt8))(x:List UInt8)(h:l≠[]):join (l++[x]) [32]=join l [32]++32::x:=by
 cases l with
 | nil=>exact absurd rfl h
 | cons y r=>rw [List.cons_append,join_cons,join_cons];unfold joinTail;simp
theorem KW(x:Int):FN [x]=nl++Aa x:=by
 refine ByteArray.ext (Array.toList_inj.1 ?_)
 rw [Bu]
 show join [itoa x] [32]=_
 rw [join_one]
 rfl
theorem MB(l:List Int)(x:Int)(h:l≠[]):FN (l++[x])=FN l++⟨#[32]⟩++Aa x:=by
 refine ByteArray.ext (Array.toList_inj.1 ?_)
 rw [Bu,Bu]
 show join ((l++[x]).map itoa) [32]=join (l.map itoa) [32]++[32]++itoa x
 rw [List.map_append,List.map_cons,List.map_nil,La _ _ (by simpa using h)]
 simp
theorem Fb(l:List UInt8):(⟨l.toArray⟩:ByteArray).size=l.length:=by simp [ByteArray.size]
theorem Ea(n:Int)(h: -1000000000<n∧n<1000000000):(itoa n).length≤10:=by
 unfold itoa
 split
 ·rw [List.length_cons,decDigits_length]
  have:=CC 8 n.natAbs (by omega)
  omega
 rw [decDigits_length]
 have:=CC 8 n.toNat (by omega)
 omega
theorem JK(n:Int)(h: -1000000000<n∧n<1000000000):(Aa n).size≤10:=by
 have:=Ea n h
 rw [show Aa n=⟨(itoa n).toArray⟩ from rfl,Fb]
 exact this
theorem PE:∀(l:List Int),(∀x∈l,-1000000000<x∧x<1000000000)→(FN l).size≤11*l.length
 | [],_=>by decide
 | x::r,h=>by
   unfold FN
   rw [Fb,List.map_cons,join_cons,List.length_append]
   have h1:=Ea x (h x (List.mem_cons_self ..))
   have h2:∀r:List Int,(∀x∈r,-1000000000<x∧x<1000000000)→(joinTail [32] (r.map itoa)).length≤11*r.length:=by
    intro r
    induction r with
    | nil=>intro _;simp [joinTail]
    | cons y t ih=>
      intro h
      have a1:=Ea y (h y (List.mem_cons_self ..))
      have a2:=ih fun z hz=>h z (List.mem_cons_of_mem _ hz)
      simp only [joinTail,List.map_cons,List.flatten_cons,List.length_append,List.length_cons,List.length_nil] at a2⊢
      omega
   have h3:=h2 r fun z hz=>h z (List.mem_cons_of_mem _ hz)
   rw [List.length_cons]
   omega
theorem Nm(a n:Int)(ha: -1000000000<a∧a<1000000000)(hn: -1000000000<n∧n<1000000000):(Hr a n).size≤30:=by
 unfold Hr
 rw [Fb]
 have h1:=Ea a ha
 have h2:=Ea n hn
 simp only [List.length_append,List.length_cons,List.length_nil]
 omega
theorem Lx(a n:Int):Hr a n=⟨#[115,101,116,32]⟩++Aa a++⟨#[32]⟩++Aa n:=by
 refine ByteArray.ext (Array.toList_inj.1 ?_)
 rw [Bu,Bu,Bu]
 show [115,101,116]++32::(itoa a++32::itoa n)=[115,101,116,32]++itoa a++[32]++itoa n
 simp
theorem Oi:E5 1≠Jp:=fun h=>by
 have h2:(E5 1).size=Jp.size:=by rw [h]
 have h3:(E5 1).size=7:=by kernel_rfl
 have h4:Jp.size=2:=rfl
 omega
end Go.Proofs.YtngojkompmcceaaGreatDoor
namespace Go.Proofs.YtngojkompmcceaaGreatDoor
attribute [local irreducible] Region.wanted
open Go.RowKit
set_option linter.unusedVariables false
set_option maxRecDepth 100000
set_option maxHeartbeats 8000000
section
variable{P:Program}{ty t u:TypeId}{a:Act}{x y:Operand}{s r:ByteArray}
theorem V.cutS{k:IntKind}{h:Nat}(ht:P.underlying t=some .string)(hx:a.eval x= .string s)(hy:a.eval y= .int k (h:Nat))(hh:h≤s.size):Bi P (.slice t x none (some y) none) ty a (.string (s.extract 0 h)):=fun d pos af g w=>by
 have e:=run_slice_string_h (P:=P) w t s ht k (h:Int) (by omega) (by omega)
 rw [Int.toNat_natCast] at e
 simp only [execOp,hx,Option.map_none,Option.map_some,hy,Sem.run_bind,run_sliceAt_string w t _ _ _ _ ht,e,Result.andThen_ok,Sem.run_pure]
theorem V.runeS{k:IntKind}{n:Int}(hs:(P.underlying t).isSome=true)(hd:P.underlying u=some .string)(hx:a.eval x= .int k n):Bi P (.convert t u x) ty a (.string (Utf8.encode n)):=fun d pos af g w=>by
 have e2:=run_convert_int_string (P:=P) w t u k n hs hd
 simp only [execOp,hx,Sem.run_bind,e2,Result.andThen_ok,Sem.run_pure]
end
theorem Oh(n:Nat)(h:n<128):Utf8.encode (n:Int)=⟨#[UInt8.ofNat n]⟩:=by
 have hv:Utf8.valid (n:Int)=true:=by rw [validRune_eq];unfold validRune;simp;omega
 unfold Utf8.encode
 simp only [hv,if_true,Int.toNat_natCast,h]
def Dz(n:Nat):ByteArray:=⟨(Lib.decDigits n).toArray⟩
theorem Km(n:Nat)(h:n<10):Utf8.encode (48+(n:Int))=Dz n:=by
 have:=Oh (48+n) (by omega)
 rw [show ((48+n:Nat):Int)=48+(n:Int) by omega] at this
 rw [this]
 unfold Dz
 rw [Lib.decDigits,dif_pos h]
theorem Mz(n:Nat)(h:¬n<10):Dz n=Dz (n/10)++Dz (n%10):=by
 refine ByteArray.ext (Array.toList_inj.1 ?_)
 rw [Bu]
 show Lib.decDigits n=Lib.decDigits (n/10)++Lib.decDigits (n%10)
 rw [Lib.decDigits,dif_neg h,Lib.decDigits.eq_def (n%10),dif_pos (by omega)]
theorem IM(n:Nat)(h:n<1000000000):(Dz n).size≤9:=by
 unfold Dz
 rw [Fb,Lib.decDigits_length]
 exact CC 8 n (by omega)
theorem Ft(n:Nat):n<1000000000→∀w:World,Calls Tryz.prog 9 #[.int .i64 n] w fun e w'=>e= .returned (.string (Dz n))∧AP w w':=by
 induction n using Nat.strongRecOn with
 | _ n ih=>
   intro hn w0
   have hS:=St.start w0
   obtain ⟨z,hz⟩:∃z:Int,z=(n:Int):=⟨_,rfl⟩
   have hz0:0≤z∧z<1000000000:=by omega
   by_cases h:n<10
   ·have HE:=fun _:Unit=>Km n h
    obtain ⟨B,hB⟩:∃B,Dz n=B:=⟨_,rfl⟩
    rw [hB] at HE⊢
    rw [←hz] at HE⊢
    have h10:z<10:=by omega
    clear ih hn hz h hB
    go_enter Tryz.func9,Tryz.ntmps9
    repeat' (first
     | refine X0 ?_|refine X2 ?_|refine AF ?_;go_step|fail)
    all_goals (try exact AU)
    repeat' (first
     | (refine AH 14 ?_);refine AR AA (V.runeS (k:= .i32) (n:=48+z) AA Tryz.underlying9 rfl) ?_;rw [HE ()];go_step|refine X8 ?_|refine X4 ?_|refine R5 ?_|refine AF ?_;go_step|fail)
    all_goals (try exact AU)
    go_ret
    exact ⟨rfl,hS.1⟩
   have HD:=AC (ih (n/10) (by omega) (by omega))
   have HE:=fun _:Unit=>Km (n%10) (by omega)
   have HB:=fun _:Unit=>Mz n h
   have H9:=IM (n/10) (by omega)
   have H8:=IM (n%10) (by omega)
   rw [show ((n/10:Nat):Int)=z/10 by omega] at HD
   rw [show ((n%10:Nat):Int)=z%10 by omega] at HE
   obtain ⟨B,hB⟩:∃B,Dz n=B:=⟨_,rfl⟩
   obtain ⟨C,hC⟩:∃C,Dz (n/10)=C:=⟨_,rfl⟩
   obtain ⟨D,hD⟩:∃D,Dz (n%10)=D:=⟨_,rfl⟩
   rw [hB] at HB⊢
   rw [hC] at HB HD H9
   rw [hD] at HB HE H8
   have hsum:C.size+D.size≤1000000:=by omega
   have h10:10≤z:=by omega
   rw [←hz]
   clear ih hn hz h hB hC hD
   go_enter Tryz.func9,Tryz.ntmps9
   repeat' (first
    | refine X0 ?_|refine X2 ?_|refine AF ?_;go_step|fail)
   all_goals (try exact AU)
   repeat' (first
    | (refine Ar 9 ?_);refine As AA Tryz.call9 (HD.out _) (C9 hS ?_);clear hS;intro w hS;go_step|(refine AH 22 ?_);refine AR AA (V.runeS (k:= .i32) (n:=48+z%10) AA Tryz.underlying9 rfl) ?_;rw [HE ()];go_step|(refine AH 23 ?_);refine AR AA (V.addS rfl rfl hsum) ?_;go_step|refine X0 ?_|refine X4 ?_|refine R5 ?_|(with_reducible refine Ap _ (.binOp .quo _ _ _ _) ?_);(refine AR AA (V.quo rfl rfl (by omega) (by omega)) ?_;go_step)|(with_reducible refine Ap _ (.binOp .rem _ _ _ _) ?_);(refine AR AA (V.rem rfl rfl (by omega) (by omega)) ?_;go_step)|refine AF ?_;go_step|fail)
   all_goals (try exact AU)
   go_ret
   exact ⟨(by rw [HB ()];rfl),hS.1⟩
theorem Fs(n:Int)(h: -1000000000<n∧n<1000000000)(w0:World):Calls Tryz.prog 9 #[.int .i64 n] w0 fun e w'=>e= .returned (.string (Aa n))∧AP w0 w':=by
 by_cases hn:n<0
 ·have hS:=St.start w0
  have HD:=AC (Ft n.natAbs (by omega))
  rw [show ((n.natAbs:Nat):Int)= -n by omega] at HD
  have HB:∀_:Unit,Aa n=⟨#[45]⟩++Dz n.natAbs:=fun _=>by
   refine ByteArray.ext (Array.toList_inj.1 ?_)
   rw [Bu]
   show Lib.itoa n=_
   unfold Lib.itoa
   rw [if_pos hn]
   rfl
  have H9:=IM n.natAbs (by omega)
  obtain ⟨B,hB⟩:∃B,Aa n=B:=⟨_,rfl⟩
  obtain ⟨C,hC⟩:∃C,Dz n.natAbs=C:=⟨_,rfl⟩
  rw [hB] at HB⊢
  rw [hC] at HB HD H9
  have hsum:(⟨#[45]⟩:ByteArray).size+C.size≤1000000:=by show 1+C.size≤_;omega
  clear hB hC
  go_enter Tryz.func9,Tryz.ntmps9
  repeat' (first
   | (refine Ar 9 ?_);refine As AA Tryz.call9 (HD.out _) (C9 hS ?_);clear hS;intro w hS;go_step|(refine AH 8 ?_);refine AR AA (V.addS rfl rfl hsum) ?_;go_step|refine X0 ?_|refine X2 ?_|(with_reducible refine Ap _ (.unOp .neg _ _) ?_);(refine AR AA (V.neg rfl (by omega)) ?_;go_step)|refine AF ?_;go_step|fail)
  all_goals (try exact AU)
  go_ret
  exact ⟨(by rw [HB ()];rfl),hS.1⟩
 have:=Ft n.toNat (by omega) w0
 rw [show ((n.toNat:Nat):Int)=n by omega] at this
 rwa [show Aa n=Dz n.toNat by unfold Aa Lib.itoa Dz;rw [if_neg hn]]
end Go.Proofs.YtngojkompmcceaaGreatDoor
