/- What the laws DeskErrors need, part 4. -/
import Derived.Test.YtngojkompmcceaaGreatDoorBaseEZ1
import Derived.Test.YtngojkompmcceaaGreatDoorBaseEZ2
import Derived.Deep.MidRow
namespace Go.Proofs.YtngojkompmcceaaGreatDoor
attribute [local irreducible] Region.wanted
set_option linter.unusedVariables false
set_option maxRecDepth 100000
set_option maxHeartbeats 8000000
section
variable{α:Type}[Inhabited α]
def AN(l:List α)(i:Nat):α:=l.getD i default
theorem Gx(l:List α)(i j:Nat)(z:α)(h:i<l.length):AN (l.set i z) j=if i=j then z else AN l j:=by
 unfold AN
 simp only [List.getD_eq_getElem?_getD,List.getElem?_set]
 split
 ·simp
 rfl
theorem A3(l m:List α)(i:Nat)(h:i<l.length):AN (l++m) i=AN l i:=by simp [AN,List.getElem?_append_left h]
theorem AV(l m:List α)(i:Nat)(h:l.length≤i):AN (l++m) i=AN m (i-l.length):=by simp [AN,List.getElem?_append_right h]
theorem NF{l:List α}{i:Nat}(h:i<l.length):AN l i∈l:=by simp [AN,h]
theorem Iz{l:List α}{x:α}(h:x∈l):∃i,i<l.length∧AN l i=x:=by
 obtain ⟨i,hi,e⟩:=List.getElem_of_mem h
 exact ⟨i,hi,by simp [AN,hi,e]⟩
theorem FA{l m:List α}(h:l.length=m.length)(k:∀i,i<l.length→AN l i=AN m i):l=m:=by
 apply List.ext_getElem h
 intro i h1 h2
 have:=k i h1
 simpa [AN,h1,h2] using this
theorem BR(l:List α)(n i:Nat)(h:i<n):AN (l.take n) i=AN l i:=by simp [AN,h]
theorem BQ(l:List α)(n i:Nat):AN (l.drop n) i=AN l (n+i):=by simp [AN]
structure Rg(a b:Nat)(P P':List α):Prop where
 len:P'.length=P.length
 out:∀x,x<a∨b≤x→AN P' x=AN P x
 perm:((P'.drop a).take (b-a)).Perm ((P.drop a).take (b-a))
theorem Rg.refl(a b:Nat)(P:List α):Rg a b P P:=⟨rfl,fun _ _=>rfl,List.Perm.refl _⟩
theorem Rg.trans{a b:Nat}{P Q R:List α}(h:Rg a b P Q)(k:Rg a b Q R):Rg a b P R:=
 ⟨k.len.trans h.len,fun x hx=>(k.out x hx).trans (h.out x hx),k.perm.trans h.perm⟩
theorem Rg.from{a b:Nat}{P P':List α}(h:Rg a b P P')(hb:b≤P.length){x:Nat}(h1:a≤x)(h2:x<b):∃y,a≤y∧y<b∧AN P' x=AN P y:=by
 have hl:=h.len
 have e:AN P' x=AN ((P'.drop a).take (b-a)) (x-a):=by rw [BR _ _ _ (by omega),BQ];congr 1;omega
 have hm:AN P' x∈(P'.drop a).take (b-a):=by rw [e];exact NF (by simp;omega)
 obtain ⟨i,hi,e2⟩:=Iz (h.perm.mem_iff.1 hm)
 simp at hi
 exact ⟨a+i,by omega,by omega,by rw [←e2,BR _ _ _ (by omega),BQ]⟩
theorem Rg.wide{a b c d:Nat}{P P':List α}(h:Rg a b P P')(hca:c≤a)(hbd:b≤d)(hab:a≤b)(hd:b≤P.length):Rg c d P P':=by
 refine ⟨h.len,fun x hx=>h.out x (by omega),?_⟩
 have cut:∀Q:List α,(Q.drop c).take (d-c)=(Q.drop c).take (a-c)++((Q.drop a).take (b-a)++(Q.drop b).take (d-b)):=fun Q=>by
  have e1:d-c=(a-c)+((b-a)+(d-b)):=by omega
  rw [e1,List.take_add,List.take_add,List.drop_drop,List.drop_drop]
  congr 4<;>omega
 have hl:=h.len
 rw [cut,cut]
 have e1:(P'.drop c).take (a-c)=(P.drop c).take (a-c):=FA (by simp [hl]) fun i hi=>by
  simp at hi;rw [BR _ _ _ (by omega),BR _ _ _ (by omega),BQ,BQ,h.out _ (by omega)]
 have e2:(P'.drop b).take (d-b)=(P.drop b).take (d-b):=FA (by simp [hl]) fun i hi=>by
  simp at hi;rw [BR _ _ _ (by omega),BR _ _ _ (by omega),BQ,BQ,h.out _ (by omega)]
 rw [e1,e2]
 exact List.Perm.append_left _ (List.Perm.append_right _ h.perm)
theorem Rg.all{P P':List α}(h:Rg 0 P.length P P'):P'.Perm P:=by
 have:=h.perm
 simp only [List.drop_zero,Nat.sub_zero,List.take_length] at this
 rwa [←h.len,List.take_length] at this
def Ip(P:List α)(i j:Nat):List α:=(P.set i (AN P j)).set j (AN P i)
theorem Dd(P:List α)(i j:Nat):(Ip P i j).length=P.length:=by simp [Ip]
theorem DX(P:List α)(i j x:Nat)(hi:i<P.length)(hj:j<P.length):AN (Ip P i j) x=if j=x then AN P i else if i=x then AN P j else AN P x:=by
 unfold Ip
 rw [Gx _ _ _ _ (by simpa using hj),Gx _ _ _ _ hi]
theorem Ia(l:List α)(i:Nat)(z:α)(h:i<l.length):(AN l i::l.set i z).Perm (z::l):=by
 induction l generalizing i with
 | nil=>simp at h
 | cons a l ih=>
   cases i with
   | zero=>simp only [AN,List.getD_cons_zero,List.set_cons_zero];exact List.Perm.swap _ _ _
   | succ i=>
     have:=ih i (by simpa using h)
     simp only [List.set_cons_succ]
     have e:AN (a::l) (i+1)=AN l i:=by simp [AN]
     rw [e]
     exact (List.Perm.swap _ _ _).trans ((this.cons a).trans (List.Perm.swap _ _ _))
theorem MI(P:List α)(i j:Nat)(hi:i<P.length)(hj:j<P.length):(Ip P i j).Perm P:=by
 unfold Ip
 have h1:=Ia (P.set i (AN P j)) j (AN P i) (by simpa using hj)
 have h2:=Ia P i (AN P j) hi
 rw [Gx _ _ _ _ hi] at h1
 have e:(if i=j then AN P j else AN P j)=AN P j:=by split<;>rfl
 rw [e] at h1
 exact (h1.trans h2).cons_inv
theorem Hj(P:List α)(a b i j:Nat)(hi:a≤i)(hib:i<b)(hj:a≤j)(hjb:j<b)(hb:b≤P.length):Rg a b P (Ip P i j):=by
 refine ⟨Dd P i j,fun x hx=>by rw [DX _ _ _ _ (by omega) (by omega),if_neg (by omega),if_neg (by omega)],?_⟩
 have e:((Ip P i j).drop a).take (b-a)=Ip ((P.drop a).take (b-a)) (i-a) (j-a):=by
  refine FA (by simp [Dd]) fun x hx=>?_
  simp [Dd] at hx
  rw [BR _ _ _ (by omega),BQ,DX _ _ _ _ (by omega) (by omega),DX _ _ _ _ (by simp;omega) (by simp;omega),BR _ _ (i-a) (by omega),BR _ _ (j-a) (by omega),BR _ _ x (by omega),BQ,BQ,BQ]
  rw [show a+(i-a)=i by omega,show a+(j-a)=j by omega]
  by_cases h1:j=a+x
  ·rw [if_pos h1,if_pos (show j-a=x by omega)]
  rw [if_neg h1,if_neg (show ¬j-a=x by omega)]
  by_cases h2:i=a+x
  ·rw [if_pos h2,if_pos (show i-a=x by omega)]
  rw [if_neg h2,if_neg (show ¬i-a=x by omega)]
 rw [e]
 exact MI _ _ _ (by simp;omega) (by simp;omega)
variable(key:α→Int)
def B7(lo hi:Nat)(P:List α):Prop:=∀i j,lo≤i→i≤j→j<hi→key (AN P i)≤key (AN P j)
variable{key}
theorem B7.same{lo hi:Nat}{P Q:List α}(h:B7 key lo hi P)(e:∀x,lo≤x→x<hi→AN Q x=AN P x):B7 key lo hi Q:=fun i j h1 h2 h3=>by
 rw [e i h1 (by omega),e j (by omega) h3];exact h i j h1 h2 h3
theorem B7.sub{lo hi lo' hi':Nat}{P:List α}(h:B7 key lo hi P)(h1:lo≤lo')(h2:hi'≤hi):B7 key lo' hi' P:=fun i j k1 k2 k3=>h i j (by omega) k2 (by omega)
theorem B7.pair{P:List α}(h:B7 key 0 P.length P):P.Pairwise (fun a b=>key a≤key b):=by
 rw [List.pairwise_iff_getElem]
 intro i j hi hj hij
 have:=h i j (by omega) (by omega) hj
 simpa [AN,hi,hj] using this
theorem MB(A U V B:List α)(x:Nat):AN (A++(V++(U++B))) x=if x<A.length then AN (A++(U++(V++B))) x else if x<A.length+V.length then AN (A++(U++(V++B))) (x+U.length) else if x<A.length+V.length+U.length then AN (A++(U++(V++B))) (x-V.length) else AN (A++(U++(V++B))) x:=by
 by_cases h1:x<A.length
 ·rw [if_pos h1,A3 _ _ _ h1,A3 _ _ _ h1]
 rw [if_neg h1,AV _ _ _ (by omega)]
 by_cases h2:x<A.length+V.length
 ·rw [if_pos h2,A3 _ _ _ (by omega),AV A _ _ (by omega),AV U _ _ (by omega),A3 V _ _ (by omega)];congr 1;omega
 rw [if_neg h2,AV _ _ _ (by omega)]
 by_cases h3:x<A.length+V.length+U.length
 ·rw [if_pos h3,A3 _ _ _ (by omega),AV A _ _ (by omega),A3 U _ _ (by omega)];congr 1;omega
 rw [if_neg h3,AV U _ _ (by omega),AV A _ _ (by omega),AV U _ _ (by omega),AV V _ _ (by omega)];congr 1;omega
def Hu(a m b:Nat)(P P':List α):Prop:=∃A U V B,P=A++(U++(V++B))∧P'=A++(V++(U++B))∧A.length=a∧U.length=m-a∧V.length=b-m
theorem Hu.rg{a m b:Nat}{P P':List α}(h:Hu a m b P P')(h1:a≤m)(h2:m≤b):Rg a b P P':=by
 obtain ⟨A,U,V,B,rfl,rfl,rfl,hu,hv⟩:=h
 refine ⟨by simp;omega,fun x hx=>?_,?_⟩
 ·rw [MB]
  rcases hx with hx|hx
  ·rw [if_pos hx]
  rw [if_neg (by omega),if_neg (by omega),if_neg (by omega)]
 rw [List.drop_left' rfl,List.drop_left' rfl,←List.append_assoc,←List.append_assoc,List.take_left' (by simp;omega),List.take_left' (by simp;omega)]
 exact List.perm_append_comm
theorem Hu.at{a m b:Nat}{P P':List α}(h:Hu a m b P P')(h1:a≤m)(h2:m≤b)(x:Nat):AN P' x=if x<a then AN P x else if x<a+(b-m) then AN P (x+(m-a)) else if x<b then AN P (x-(b-m)) else AN P x:=by
 obtain ⟨A,U,V,B,rfl,rfl,rfl,hu,hv⟩:=h
 rw [MB,hu,hv]
 rw [show A.length+(b-m)+(m-A.length)=b by omega]
theorem Hu.triv{β:Type}{a m b:Nat}{P:List β}(h1:a≤m)(h2:m≤b)(hb:b≤P.length)(h:m=a∨m=b):Hu a m b P P:=by
 refine ⟨P.take a,(P.drop a).take (m-a),(P.drop m).take (b-m),P.drop b,?_,?_,by simp;omega,by simp;omega,by simp;omega⟩
 ·have e1:(P.drop m).take (b-m)++P.drop b=P.drop m:=by
   have:=List.take_append_drop (b-m) (P.drop m)
   rw [List.drop_drop,show m+(b-m)=b by omega] at this;exact this
  have e2:(P.drop a).take (m-a)++P.drop m=P.drop a:=by
   have:=List.take_append_drop (m-a) (P.drop a)
   rw [List.drop_drop,show a+(m-a)=m by omega] at this;exact this
  rw [e1,e2,List.take_append_drop]
 rcases h with rfl|rfl
 ·rw [Nat.sub_self,List.take_zero,List.nil_append]
  have e1:(P.drop m).take (b-m)++P.drop b=P.drop m:=by
   have:=List.take_append_drop (b-m) (P.drop m)
   rw [List.drop_drop,show m+(b-m)=b by omega] at this;exact this
  rw [e1,List.take_append_drop]
 rw [Nat.sub_self,List.take_zero,List.nil_append]
 have e2:(P.drop a).take (m-a)++P.drop m=P.drop a:=by
  have:=List.take_append_drop (m-a) (P.drop a)
  rw [List.drop_drop,show a+(m-a)=m by omega] at this;exact this
 rw [e2,List.take_append_drop]
theorem De{a m b mid st en:Nat}{P Q:List α}(h1:B7 key a m P)(h2:B7 key m b P)(ham:a<m)(hmb:m<b)(hmid:mid=(a+b)/2)(hen:en=mid+m-st)(hs1:a≤st)(hs2:st≤m)(hs3:st≤mid)(he1:m≤en)(he2:en≤b)
 (hlo:a<st→m≤en→en<b→key (AN P (st-1))≤key (AN P en)) (hhi:m<en→st<m→key (AN P (en-1))≤key (AN P st)) (hr:Hu st m en P Q):
 B7 key a st Q∧B7 key st mid Q∧B7 key mid en Q∧B7 key en b Q∧∀x y,a≤x→x<mid→mid≤y→y<b→key (AN Q x)≤key (AN Q y):=by
 have ha:=hr.at hs2 he1
 have em:st+(en-m)=mid:=by omega
 rw [em] at ha
 have hA:∀x,x<st→AN Q x=AN P x:=fun x h=>by rw [ha,if_pos h]
 have hB:∀x,st≤x→x<mid→AN Q x=AN P (x+(m-st)):=fun x h h'=>by rw [ha,if_neg (by omega),if_pos h']
 have hC:∀x,mid≤x→x<en→AN Q x=AN P (x-(en-m)):=fun x h h'=>by rw [ha,if_neg (by omega),if_neg (by omega),if_pos h']
 have hD:∀x,en≤x→AN Q x=AN P x:=fun x h=>by rw [ha,if_neg (by omega),if_neg (by omega),if_neg (by omega)]
 clear ha hr
 refine ⟨h1.sub (Nat.le_refl _) hs2 |>.same fun x _ hx=>hA x hx,?_,?_,h2.sub he1 (Nat.le_refl _) |>.same fun x hx _=>hD x hx,?_⟩
 ·intro i j k1 k2 k3
  rw [hB i k1 (by omega),hB j (by omega) k3]
  exact h2 _ _ (by omega) (by omega) (by omega)
 ·intro i j k1 k2 k3
  rw [hC i k1 (by omega),hC j (by omega) k3]
  exact h1 _ _ (by omega) (by omega) (by omega)
 intro x y k1 k2 k3 k4
 by_cases c1:x<st
 ·rw [hA x c1]
  by_cases c2:y<en
  ·rw [hC y k3 c2];exact h1 _ _ (by omega) (by omega) (by omega)
  rw [hD y (by omega)]
  have t1:=h1 x (st-1) k1 (by omega) (by omega)
  have t2:=hlo (by omega) he1 (by omega)
  have t3:=h2 en y he1 (by omega) k4
  omega
 rw [hB x (by omega) k2]
 by_cases c2:y<en
 ·rw [hC y k3 c2]
  have t1:=h2 (x+(m-st)) (en-1) (by omega) (by omega) (by omega)
  have t2:=hhi (by omega) (by omega)
  have t3:=h1 st (y-(en-m)) hs1 (by omega) (by omega)
  omega
 rw [hD y (by omega)];exact h2 _ _ (by omega) (by omega) (by omega)
theorem Ap{a mid b:Nat}{Q R S:List α}(h1:a≤mid)(h2:mid≤b)(hb:b≤Q.length)(hx:∀x y,a≤x→x<mid→mid≤y→y<b→key (AN Q x)≤key (AN Q y))(r1:Rg a mid Q R)(r2:Rg mid b R S)(s1:B7 key a mid R)(s2:B7 key mid b S):B7 key a b S∧Rg a b Q S:=by
 refine ⟨fun i j k1 k2 k3=>?_,(r1.wide (Nat.le_refl _) h2 h1 (by omega)).trans (r2.wide h1 (Nat.le_refl _) h2 (by rw [r1.len];omega))⟩
 by_cases c1:j<mid
 ·rw [r2.out i (by omega),r2.out j (by omega)];exact s1 i j k1 k2 c1
 by_cases c2:i<mid
 ·obtain ⟨x,x1,x2,ex⟩:=r1.from (by omega) k1 c2
  obtain ⟨y,y1,y2,ey⟩:=r2.from (by rw [r1.len];omega) (show mid≤j by omega) k3
  rw [r2.out i (by omega),ex,ey,r1.out y (by omega)]
  exact hx x y x1 x2 y1 y2
 exact s2 i j (by omega) k2 k3
theorem NL{lo i p:Nat}{P Q:List α}(h1:B7 key lo i P)(hp1:lo≤p)(hp2:p≤i)(e1:∀x,x<p→AN Q x=AN P x)(e2:AN Q p=AN P i)(e3:∀x,p<x→x≤i→AN Q x=AN P (x-1))
 (hlo:lo<p→key (AN P (p-1))≤key (AN P i)) (hhi:p<i→key (AN P i)≤key (AN P p)):B7 key lo (i+1) Q:=by
 intro x y k1 k2 k3
 by_cases c1:x<p
 ·rw [e1 x c1]
  by_cases c2:y<p
  ·rw [e1 y c2];exact h1 x y k1 k2 (by omega)
  by_cases c3:y=p
  ·rw [c3,e2];have:=h1 x (p-1) k1 (by omega) (by omega);have:=hlo (by omega);omega
  rw [e3 y (by omega) (by omega)];exact h1 x (y-1) k1 (by omega) (by omega)
 by_cases c2:x=p
 ·rw [c2,e2]
  by_cases c3:y=p
  ·rw [c3,e2];exact Int.le_refl _
  rw [e3 y (by omega) (by omega)]
  have:=h1 p (y-1) (by omega) (by omega) (by omega);have:=hhi (by omega);omega
 rw [e3 x (by omega) (by omega),e3 y (by omega) (by omega)]
 exact h1 (x-1) (y-1) (by omega) (by omega) (by omega)
end
section
variable{α:Type}[Inhabited α]{key:α→Int}
structure Dn(i j:Nat)(P Q:List α):Prop where
 len:Q.length=P.length
 lo:∀x,x<j→AN Q x=AN P x
 eq:AN Q j=AN P i
 mid:∀x,j<x→x≤i→AN Q x=AN P (x-1)
 hi:∀x,i<x→AN Q x=AN P x
theorem Dn.refl(i:Nat)(P:List α):Dn i i P P:=⟨rfl,fun _ _=>rfl,rfl,fun x h1 h2=>by omega,fun _ _=>rfl⟩
theorem Dn.step{i j:Nat}{P Q:List α}(h:Dn i j P Q)(h1:0<j)(h2:j≤i)(h3:i<P.length):Dn i (j-1) P (Ip Q j (j-1)):=by
 have hl:=h.len
 have e:=fun x=>DX Q j (j-1) x (by omega) (by omega)
 refine ⟨by rw [Dd,hl],fun x hx=>?_,?_,fun x k1 k2=>?_,fun x hx=>?_⟩
 ·rw [e,if_neg (by omega),if_neg (by omega),h.lo x (by omega)]
 ·rw [e,if_pos rfl,h.eq]
 ·rw [e,if_neg (by omega)]
  by_cases c:j=x
  ·rw [if_pos c,h.lo _ (by omega),c]
  rw [if_neg c,h.mid x (by omega) k2]
 rw [e,if_neg (by omega),if_neg (by omega),h.hi x hx]
theorem Dn.asc{lo i p:Nat}{P Q:List α}(h:Dn i p P Q)(h1:B7 key lo i P)(hp1:lo≤p)(hp2:p≤i)(hlo:lo<p→key (AN P (p-1))≤key (AN P i))(hhi:p<i→key (AN P i)≤key (AN P p)):B7 key lo (i+1) Q:=
 NL h1 hp1 hp2 h.lo h.eq h.mid hlo hhi
structure Mw(a k:Nat)(P Q:List α):Prop where
 len:Q.length=P.length
 lo:∀x,x<a→AN Q x=AN P x
 mid:∀x,a≤x→x<k→AN Q x=AN P (x+1)
 eq:AN Q k=AN P a
 hi:∀x,k<x→AN Q x=AN P x
theorem Mw.refl(i:Nat)(P:List α):Mw i i P P:=⟨rfl,fun _ _=>rfl,fun x h1 h2=>by omega,rfl,fun _ _=>rfl⟩
theorem Mw.step{a k:Nat}{P Q:List α}(h:Mw a k P Q)(h1:a≤k)(h3:k+1<P.length):Mw a (k+1) P (Ip Q k (k+1)):=by
 have hl:=h.len
 have e:=fun x=>DX Q k (k+1) x (by omega) (by omega)
 refine ⟨by rw [Dd,hl],fun x hx=>?_,fun x k1 k2=>?_,?_,fun x hx=>?_⟩
 ·rw [e,if_neg (by omega),if_neg (by omega),h.lo x hx]
 ·rw [e,if_neg (by omega)]
  by_cases c:k=x
  ·rw [if_pos c,h.hi _ (by omega),c]
  rw [if_neg c,h.mid x k1 (by omega)]
 ·rw [e,if_pos rfl,h.eq]
 rw [e,if_neg (by omega),if_neg (by omega),h.hi x (by omega)]
theorem Mw.asc{a p b:Nat}{P Q:List α}(h:Mw a p P Q)(h1:B7 key (a+1) b P)(hp1:a≤p)(hp2:p<b)(hlo:a<p→key (AN P p)≤key (AN P a))(hhi:p+1<b→key (AN P a)≤key (AN P (p+1))):B7 key a b Q:=by
 intro x y k1 k2 k3
 by_cases c1:x<p
 ·rw [h.mid x k1 c1]
  by_cases c2:y<p
  ·rw [h.mid y (by omega) c2];exact h1 _ _ (by omega) (by omega) (by omega)
  by_cases c3:y=p
  ·rw [c3,h.eq];have:=h1 (x+1) p (by omega) (by omega) (by omega);have:=hlo (by omega);omega
  rw [h.hi y (by omega)];exact h1 _ _ (by omega) (by omega) (by omega)
 by_cases c2:x=p
 ·rw [c2,h.eq]
  by_cases c3:y=p
  ·rw [c3,h.eq];exact Int.le_refl _
  rw [h.hi y (by omega)]
  have:=hhi (by omega);have:=h1 (p+1) y (by omega) (by omega) (by omega);omega
 rw [h.hi x (by omega),h.hi y (by omega)];exact h1 _ _ (by omega) (by omega) (by omega)
structure Ja(a b t:Nat)(P Q:List α):Prop where
 len:Q.length=P.length
 one:∀x,a≤x→x<a+t→AN Q x=AN P (x-a+b)
 two:∀x,b≤x→x<b+t→AN Q x=AN P (x-b+a)
 out:∀x,(x<a∨a+t≤x)→(x<b∨b+t≤x)→AN Q x=AN P x
theorem Ja.refl(a b:Nat)(P:List α):Ja a b 0 P P:=⟨rfl,fun x h1 h2=>by omega,fun x h1 h2=>by omega,fun _ _ _=>rfl⟩
theorem Ja.step{a b t:Nat}{P Q:List α}(h:Ja a b t P Q)(h1:a+t<b)(h2:b+t<P.length):Ja a b (t+1) P (Ip Q (a+t) (b+t)):=by
 have hl:=h.len
 have e:=fun x=>DX Q (a+t) (b+t) x (by omega) (by omega)
 refine ⟨by rw [Dd,hl],fun x k1 k2=>?_,fun x k1 k2=>?_,fun x k1 k2=>?_⟩
 ·rw [e,if_neg (by omega)]
  by_cases c:a+t=x
  ·rw [if_pos c,h.out _ (by omega) (by omega)];congr 1;omega
  rw [if_neg c,h.one x k1 (by omega)]
 ·rw [e]
  by_cases c:b+t=x
  ·rw [if_pos c,h.out _ (by omega) (by omega)];congr 1;omega
  rw [if_neg c,if_neg (by omega),h.two x k1 (by omega)]
 rw [e,if_neg (by omega),if_neg (by omega),h.out x (by omega) (by omega)]
theorem Ja.blocks{A U C V B Q:List α}{n:Nat}(hu:U.length=n)(hv:V.length=n)(h:Ja A.length (A.length+n+C.length) n (A++(U++(C++(V++B)))) Q):Q=A++(V++(C++(U++B))):=by
 have hl:=h.len
 refine FA (by rw [hl];simp;omega) fun x hx=>?_
 rw [hl] at hx
 simp at hx
 by_cases c1:x<A.length
 ·rw [h.out x (by omega) (by omega),A3 _ _ _ c1,A3 _ _ _ c1]
 rw [AV A (V++(C++(U++B))) _ (by omega)]
 by_cases c2:x<A.length+n
 ·rw [h.one x (by omega) c2,A3 V _ _ (by omega),AV A _ _ (by omega),AV U _ _ (by omega),AV C _ _ (by omega),A3 V _ _ (by omega)];congr 1;omega
 rw [AV V (C++(U++B)) _ (by omega)]
 by_cases c3:x<A.length+n+C.length
 ·rw [h.out x (by omega) (by omega),A3 C (U++B) _ (by omega),AV A _ _ (by omega),AV U _ _ (by omega),A3 C _ _ (by omega)];congr 1;omega
 rw [AV C (U++B) _ (by omega)]
 by_cases c4:x<A.length+n+C.length+n
 ·rw [h.two x (by omega) c4,A3 U B _ (by omega),AV A _ _ (by omega),A3 U _ _ (by omega)];congr 1;omega
 rw [h.out x (by omega) (by omega),AV U B _ (by omega),AV A _ _ (by omega),AV U _ _ (by omega),AV C _ _ (by omega),AV V _ _ (by omega)];congr 1;omega
theorem Hu.left{A U V B Q:List α}{i j:Nat}(hu:U.length=i)(hv:V.length=j)(hij:j≤i)(h:Ja A.length (A.length+i) j (A++(U++(V++B))) Q):
 ∃U1 U2,U=U1++U2∧U1.length=j∧U2.length=i-j∧Q=(A++V)++(U2++(U1++B))∧A++(V++(U++B))=(A++V)++(U1++(U2++B)):=by
 have e:U=U.take j++U.drop j:=(List.take_append_drop _ _).symm
 refine ⟨U.take j,U.drop j,e,by simp;omega,by simp;omega,?_,?_⟩
 ·rw [e,List.append_assoc] at h
  have:=Ja.blocks (A:=A) (U:=U.take j) (C:=U.drop j) (V:=V) (B:=B) (n:=j) (Q:=Q) (by simp;omega) hv (by
   rw [show A.length+j+(U.drop j).length=A.length+i by simp;omega];exact h)
  rw [this,List.append_assoc]
 conv=>lhs;rw [e]
 simp only [List.append_assoc]
theorem Hu.right{A U V B Q:List α}{i j:Nat}(hu:U.length=i)(hv:V.length=j)(hij:i≤j)(h:Ja A.length (A.length+j) i (A++(U++(V++B))) Q):
 ∃V1 V2,V=V1++V2∧V1.length=j-i∧V2.length=i∧Q=A++(V2++(V1++(U++B)))∧A++(V++(U++B))=A++(V1++(V2++(U++B))):=by
 have e:V=V.take (j-i)++V.drop (j-i):=(List.take_append_drop _ _).symm
 refine ⟨V.take (j-i),V.drop (j-i),e,by simp;omega,by simp;omega,?_,?_⟩
 ·rw [e,List.append_assoc] at h
  have:=Ja.blocks (A:=A) (U:=U) (C:=V.take (j-i)) (V:=V.drop (j-i)) (B:=B) (n:=i) (Q:=Q) hu (by simp;omega) (by
   rw [show A.length+i+(V.take (j-i)).length=A.length+j by simp;omega];exact h)
  exact this
 conv=>lhs;rw [e]
 simp only [List.append_assoc]
end
end Go.Proofs.YtngojkompmcceaaGreatDoor
namespace Go.Proofs.YtngojkompmcceaaGreatDoor
attribute [local irreducible] Region.wanted
open Go.RowKit
set_option linter.unusedVariables false
set_option maxRecDepth 100000
set_option maxHeartbeats 8000000
theorem CM{α:Type}(enc:α→List Value)(m:Nat)(he:∀x,(enc x).length=m)(l:List α):(l.flatMap enc).length=l.length*m:=by
 induction l with
 | nil=>simp
 | cons x l ih=>rw [List.flatMap_cons,List.length_append,ih,he,List.length_cons,Nat.add_mul,Nat.one_mul,Nat.add_comm]
theorem EQ(w:World)(g:Nat)(t:TypeId)(A B D:List Value):∀(vs B A:List Value)(w:World)(cur:Array Value),w.heap[g]? =some (.cells cur t)→cur.toList=A++(B++D)→B.length=vs.length→∃cur':Array Value,(w.setCells g A.length vs).heap[g]? =some (.cells cur' t)∧cur'.toList=A++(vs++D)∧Cm [g] w (w.setCells g A.length vs)
 | [],[],A,w,cur,h,e,_=>⟨cur,h,e,⟨rfl,rfl,rfl,Nat.le_refl _,fun _ _ _=>rfl⟩⟩
 | [],_::_,A,w,cur,h,e,hl=>by simp at hl
 | _::_,[],A,w,cur,h,e,hl=>by simp at hl
 | v::vs,b::B,A,w,cur,h,e,hl=>by
   have h1:=heap_setCell_same w g A.length cur t v h
   have e1:(cur.setIfInBounds A.length v).toList=(A++[v])++(B++D):=by
    rw [Array.toList_setIfInBounds,e];simp
   obtain ⟨cur',h2,h3,h4⟩:=EQ w g t A B D vs B (A++[v]) _ _ h1 e1 (by simpa using hl)
   have e2:w.setCells g A.length (v::vs)=(w.setCell ⟨g,A.length,none⟩ v).setCells g (A++[v]).length vs:=by
    rw [World.setCells,List.length_append];rfl
   rw [e2]
   have h5:=Cm.setCell w ⟨g,A.length,none⟩ v
   exact ⟨cur',h2,by rw [h3];simp,⟨h4.os.trans h5.os,h4.tape.trans h5.tape,h4.output.trans h5.output,Nat.le_trans h5.size h4.size,fun k hk hm=>(h4.block k (Nat.lt_of_lt_of_le hk h5.size) hm).trans (h5.block k hk hm)⟩⟩
section
variable{α:Type}[Inhabited α]
theorem G0(enc:α→List Value)(m:Nat)(he:∀x,(enc x).length=m):∀(l:List α)(j:Nat),j<l.length→((l.flatMap enc).drop (j*m)).take m=enc (AN l j)
 | [],j,h=>by simp at h
 | x::l,0,h=>by rw [Nat.zero_mul,List.drop_zero,List.flatMap_cons,List.take_left' (he x)];simp [AN]
 | x::l,j+1,h=>by
   rw [List.flatMap_cons,Nat.add_mul,Nat.one_mul,Nat.add_comm,←List.drop_drop,List.drop_left' (he x),G0 enc m he l j (by simpa using h)]
   simp [AN]
theorem IG(enc:α→List Value)(m:Nat)(he:∀x,(enc x).length=m)(z:α):∀(l:List α)(j:Nat),j<l.length→∃A B,l.flatMap enc=A++(enc (AN l j)++B)∧(l.set j z).flatMap enc=A++(enc z++B)∧A.length=j*m
 | [],j,h=>by simp at h
 | x::l,0,h=>⟨[],l.flatMap enc,by simp [AN],by simp,by simp⟩
 | x::l,j+1,h=>by
   obtain ⟨A,B,e1,e2,e3⟩:=IG enc m he z l j (by simpa using h)
   refine ⟨enc x++A,B,?_,?_,?_⟩
   ·rw [List.flatMap_cons,e1,List.append_assoc];simp [AN]
   ·rw [List.set_cons_succ,List.flatMap_cons,e2,List.append_assoc]
   rw [List.length_append,he,e3,Nat.add_mul,Nat.one_mul,Nat.add_comm]
end
section
variable{α:Type}{P:Program}{W w:World}{rs rs':List Af}{Q:Exit→Act→World→Prop}{K:Act→World→Prop}{o:Oper}{a:Act}
theorem CR{e:TypeId}{n c m:Nat}{ad:Option Addr}{enc:α→List Value}{l:List α}(hS:St W w rs)(hp:AK (own e m ad n c (l.flatMap enc)) rs rs')(he:∀x,(enc x).length=m)(hm:0<m):l.length=n:=by
 have:=(hS.own hp).1
 rw [CM enc m he] at this
 exact Nat.eq_of_mul_eq_mul_right hm this
theorem Il(hS:St W w rs)(ty:TypeId)(x:Operand)(ho:o.op= .load ty x)(g q:Nat)(hx:a.eval x= .pointer (some ⟨g,q,none⟩))(m:Nat)(h1:Cx P ty m)(e:TypeId)(n c:Nat)(l:List α)(enc:α→List Value)(hp:AK (own e m (some ⟨g,0,none⟩) n c (l.flatMap enc)) rs rs')
 (inst:Inhabited α) (he:∀x,(enc x).length=m) (j:Nat) (hq:q=j*m) (hj:j<n) (h:K (a.put o.dst (.agg (enc (AN l j)).toArray)) w):o.wp P a w K Q:=by
 subst hq
 have hl:=(hS.own hp).1
 rw [CM enc m he] at hl
 refine CW ty x ho g _ hx m h1 (enc (AN l j)) (he _) ?_ h
 have:=GX (off:=j*m) (m:=m) hS hp
 rcases Nat.eq_zero_or_pos m with h0|h0
 ·have e0:enc (AN l j)=[]:=List.eq_nil_of_length_eq_zero (by rw [he,h0])
  rw [e0];intro i v hv;simp at hv
 have hln:l.length=n:=Nat.eq_of_mul_eq_mul_right h0 hl
 rwa [G0 enc m he l j (by omega)] at this
theorem Gm(hS:St W w rs)(ty:TypeId)(x:Operand)(ho:o.op= .load ty x)(g q:Nat)(hx:a.eval x= .pointer (some ⟨g,q,none⟩))(h1:Gs P ty)(e:TypeId)(m n c:Nat)(l:List α)(enc:α→List Value)(hp:AK (own e m (some ⟨g,0,none⟩) n c (l.flatMap enc)) rs rs')
 (inst:Inhabited α) (he:∀x,(enc x).length=m) (j f:Nat) (hq:q=j*m+f) (hj:j<n) (v:Value) (hv:(enc (AN l j))[f]? =some v) (h:K (a.put o.dst v) w):o.wp P a w K Q:=by
 subst hq
 have hf:f<m:=by rw [←he (AN l j)];exact (List.getElem?_eq_some_iff.1 hv).1
 have hl:=CR hS hp he (by omega)
 refine Di hS ty x ho g _ hx h1 e m n c _ hp v ?_ h
 have:=G0 enc m he l j (by omega)
 rw [←this,List.getElem?_take,if_pos hf,List.getElem?_drop] at hv
 exact hv
theorem JT(hS:St W w rs)(ty:TypeId)(x:Operand)(ho:o.op= .load ty x)(g q:Nat)(hx:a.eval x= .pointer (some ⟨g,q,none⟩))(h1:Gs P ty)(e:TypeId)(m n c:Nat)(l:List α)(enc:α→List Value)(hp:AK (own e m (some ⟨g,0,none⟩) n c (l.flatMap enc)) rs rs')
 (inst:Inhabited α) (he:∀x,(enc x).length=m) (j:Nat) (hq:q=j*m) (hj:j<n) (v:Value) (hv:(enc (AN l j))[0]? =some v) (h:K (a.put o.dst v) w):o.wp P a w K Q:=
 Gm hS ty x ho g q hx h1 e m n c l enc hp inst he j 0 hq hj v hv h
theorem K3(hS:St W w rs)(ty:TypeId)(x y:Operand)(ho:o.op= .store ty x y)(g q:Nat)(hx:a.eval x= .pointer (some ⟨g,q,none⟩))(m:Nat)(h1:Cx P ty m)(e:TypeId)(n c:Nat)(l:List α)(enc:α→List Value)(hp:AK (own e m (some ⟨g,0,none⟩) n c (l.flatMap enc)) rs rs')
 (inst:Inhabited α) (he:∀x,(enc x).length=m) (hone:∀x,(enc x).all (·.oneCell')=true) (j:Nat) (hq:q=j*m) (hj:j<n) (z:α) (hy:a.eval y= .agg (enc z).toArray) (hd:o.dst=none) (h:∀w',St W w' (own e m (some ⟨g,0,none⟩) n c ((l.set j z).flatMap enc)::rs')→K a w'):o.wp P a w K Q:=by
 subst hq
 have hown:=hS.own hp
 have hlen:=hown.1
 rw [CM enc m he] at hlen
 rcases hown.2 with ⟨h2,_⟩|⟨g',cap,cur,h2,hb,hg,hn,hc,hsz,htake⟩
 ·cases h2
 cases h2
 have hln:m=0∨l.length=n:=by
  rcases Nat.eq_zero_or_pos m with h0|h0
  ·exact .inl h0
  exact .inr (Nat.eq_of_mul_eq_mul_right h0 hlen)
 have hjm:j*m+m≤n*m:=by have:=Nat.mul_le_mul_right m hj;rwa [Nat.succ_mul] at this
 have hcm:n*m≤c*m:=Nat.mul_le_mul_right m hn
 refine wp_store_mid ty x y ho g (j*m) (enc z).toArray hx hy ?_ (by rw [h1.2];simp [he]) (by simpa using hone z) ?_
 ·intro i hi
  rw [List.size_toArray,he] at hi
  refine ⟨?_,frozen_of_row w g _ cur e hg⟩
  have:=Fe hS hp (k:=j*m+i) (v:=(l.flatMap enc)[j*m+i]'(by rw [CM enc m he];omega)) (by rw [List.getElem?_eq_getElem])
  rw [this];rfl
 rw [show a.put o.dst undef=a by rw [hd];rfl]
 refine h _ ?_
 refine St.change (rs1:=[own e m (some ⟨g,0,none⟩) n c ((l.set j z).flatMap enc)]) (hS.pull hp) fun f1 k1 _ _=>?_
 obtain ⟨rfl,_⟩:=k1
 rcases hln with h0|hln
 ·have e0:∀y,enc y=[]:=fun y=>List.eq_nil_of_length_eq_zero (by rw [he,h0])
  have e1:∀l:List α,l.flatMap enc=[]:=fun l=>List.eq_nil_of_length_eq_zero (by rw [CM enc m he,h0,Nat.mul_zero])
  rw [e0,e1]
  refine ⟨[g],⟨[g],[],rfl,⟨rfl,by simp [h0], .inr ⟨g,c,cur,rfl,hb,hg,hn,hc,hsz,by rw [h0];simp⟩⟩,rfl⟩,by simp,fun b hb=> .inl hb,⟨rfl,rfl,rfl,Nat.le_refl _,fun _ _ _=>rfl⟩⟩
 obtain ⟨A,B,e1,e2,e3⟩:=IG enc m he z l j (by omega)
 have ecur:cur.toList=A++(enc (AN l j)++(B++cur.toList.drop (n*m))):=by
  conv=>lhs;rw [←List.take_append_drop (n*m) cur.toList,htake,e1]
  simp
 obtain ⟨cur',k2,k3,k4⟩:=EQ w g e [] [] (B++cur.toList.drop (n*m)) (enc z) (enc (AN l j)) A w cur hg ecur (by rw [he,he])
 rw [←e3]
 have hAB:(A++(enc z++B)).length=n*m:=by rw [←e2,CM enc m he,List.length_set,hln]
 refine ⟨[g],⟨[g],[],rfl,⟨rfl,by rw [CM enc m he,List.length_set,hln], .inr ⟨g,c,cur',rfl,hb,k2,hn,hc,?_,?_⟩⟩,rfl⟩,by simp,fun b hb=> .inl hb,k4⟩
 ·have a1:=congrArg List.length k3
  have a2:=congrArg List.length ecur
  simp only [List.length_append,Array.length_toList,he] at a1 a2
  omega
 have a3:cur'.toList=(A++(enc z++B))++cur.toList.drop (n*m):=by rw [k3];simp
 rw [a3,List.take_left' hAB,e2]
end
structure Bu where
 w:Int
 ad:Option Addr
 n:Nat
 c:Nat
instance:Inhabited Bu:=⟨⟨0,none,0,0⟩⟩
def GG(p:Bu):List Value:=[.int .i64 p.w, .slice p.ad p.n p.c]
theorem BV:∀p,(GG p).length=2:=fun _=>rfl
theorem He:∀p,(GG p).all (·.oneCell')=true:=fun _=>rfl
def F9(x y:Int):Int:=if x<y then -1 else if y<x then 1 else 0
theorem KM(w:World)(x:Int):Calls Tryz.prog 113 #[.int .i64 x] w fun e w'=>e= .returned (.bool false)∧AP w w':=by
 have hS:=St.start w
 go_enter Tryz.func113,Tryz.ntmps113
 repeat' (first
  | refine X0 ?_|refine PV ?_|refine AF ?_;go_step|fail)
 all_goals go_ret
 all_goals exact ⟨by simp,hS.1⟩
theorem H4(w:World)(x y:Int):Calls Tryz.prog 99 #[.int .i64 x, .int .i64 y] w fun e w'=>e= .returned (.int .i64 (F9 x y))∧AP w w':=by
 have hS:=St.start w
 go_enter Tryz.func99,Tryz.ntmps99
 repeat' (first
  | (refine Av 113 ?_);refine Aw AA Tryz.call113 (KM _ _) (Dj hS ?_);clear hS;intro w hS;go_step|refine X0 ?_|refine X3 ?_|refine X9 ?_|refine AF ?_;go_step|fail)
 all_goals go_ret
 all_goals (refine ⟨?_,hS.1⟩;unfold F9;first|(rw [if_pos (by omega)];rfl)|(rw [if_neg (by omega),if_pos (by omega)];rfl)|(rw [if_neg (by omega),if_neg (by omega)];rfl))
theorem Bl(w:World)(p q:Bu):Calls Tryz.prog 74 #[.agg (GG p).toArray, .agg (GG q).toArray] w fun e w'=>e= .returned (.int .i64 (F9 p.w q.w))∧AP w w':=by
 have hS:=St.start w
 obtain ⟨x,ap,np,cp⟩:=p
 obtain ⟨y,aq,nq,cq⟩:=q
 simp only [GG]
 go_enter Tryz.func74,Tryz.ntmps74
 repeat' (first
  | (refine Av 99 ?_);refine Aw AA Tryz.call99 (H4 _ _ _) (Dj hS ?_);clear hS;intro w hS;go_step|refine X7 ?_|(with_reducible refine Al _ (.fieldAddr 109 _ 0) ?_);(refine AY AA (V.fieldAddr G4 rfl Br) ?_;go_step)|(refine AM 2 ?_);(refine Aq ?_;apply Hs (o:=⟨some 2,_,_,_,_,_⟩) hS 109 _ rfl _ rfl;clear hS;intro g2 w hS;refine AB ?_;go_step)|(refine AM 3 ?_);(refine Aq ?_;apply Hs (o:=⟨some 3,_,_,_,_,_⟩) hS 109 _ rfl _ rfl;clear hS;intro g3 w hS;refine AB ?_;go_step)|refine PZ ?_|refine AF ?_;go_step|fail)
 all_goals go_ret
 all_goals exact ⟨rfl,hS.1⟩
abbrev BG(g n c:Nat)(P:List Bu):Af:=own 109 2 (some ⟨g,0,none⟩) n c (P.flatMap GG)
theorem Ck(W w0:World)(rs rs':List Af)(g n c a b k:Nat)(P:List Bu)(hS:St W w0 rs)(hp:AK (BG g n c P) rs rs')(hab:a+k≤b)(hb:b+k≤n)(hn:n≤1000000)(K:Value):
 Calls Tryz.prog 120 #[.slice (some ⟨g,0,none⟩) n c, .int .i64 a, .int .i64 b, .int .i64 k,K] w0 fun e w=>e= .returned (.tuple #[])∧∃Q,Ja a b k P Q∧St W w (BG g n c Q::rs'):=by
 replace hS:=hS.pull hp
 have he:=BV
 have h1e:=He
 have hPl:=CR hS AK.head BV (by decide)
 go_enter Tryz.func120,Tryz.ntmps120
 repeat' (first
  | refine X7 ?_|refine AF ?_;go_step|fail)
 go_loopg [10] k (fun gk iv w=>∃(i:Nat) (Q:List Bu),gk+i=k∧iv= .int .i64 i∧Ja a b i P Q∧St W w (BG g n c Q::rs'))
 case atStart=>exact ⟨0,P,by omega,rfl,Ja.refl a b P,hS⟩
 case round=>
  clear hS
  obtain ⟨i,Q,hi,rfl,hQ,hS⟩:=hrel
  by_cases hlt:i<k
  ·have hQ2:=hQ.step (by omega) (by omega)
   have HQ:=AD hQ2
   clear hQ hQ2
   repeat' (first
    | refine X1 ?_|refine X2 13 ?_|refine AF ?_;go_step|fail)
   refine AT [21,23] (fun w=>St W w (BG g n c Q::rs')) AA ?_
   replace hS:=hS.drew
   focus
    refine Ab 0 ?_
    refine Ab 1 ?_
    refine Ab 2 ?_
    (refine Bs 3 (.int _ (((a+i:Nat):Int))) Cy AA AA AA Ei (V.as (V.addI rfl rfl (by omega)) (by omega)) AA ?_)
    go_step
    refine Ab 4 ?_
    refine Ab 5 ?_
    refine Ab 6 ?_
    (refine Bs 7 (.int _ (((b+i:Nat):Int))) Cy AA AA AA Ei (V.as (V.addI rfl rfl (by omega)) (by omega)) AA ?_)
    go_step
    refine Ab 8 ?_
    refine Ab 9 ?_
    refine Ab 10 ?_
    (refine Bs 11 (.int _ (((b+i:Nat):Int))) Cy AA AA AA Ei (V.as (V.addI rfl rfl (by omega)) (by omega)) AA ?_)
    go_step
    refine Y0 12 ?_
    refine Y2 13 [20,21,22,23] ?_
    refine Ab 14 ?_
    refine Ab 15 ?_
    refine Ab 16 ?_
    (refine Bs 17 (.int _ (((a+i:Nat):Int))) Cy AA AA AA Ei (V.as (V.addI rfl rfl (by omega)) (by omega)) AA ?_)
    go_step
    refine Y0 18 ?_
    refine Y2 19 [20,21,22,23] ?_
    refine Y0 20 ?_
    refine CC 21 ?_
    refine Y5 ?_;clear hS;intro w hS
    refine Y0 22 ?_
    refine CC 23 ?_
    refine Y5 ?_;clear hS;intro w hS
    refine AL AA ?_ _
   repeat' (first
    | refine X0 ?_|refine Ph 15 ?_|refine AF ?_;go_step|fail)
   go_roundg (gk-1)
   case measure=>omega
   case rel=>exact ⟨i+1,Ip Q (a+i) (b+i),by omega,by go_num,HQ.out,hS⟩
  obtain rfl:i=k:=by omega
  repeat' (first
   | refine X1 ?_|refine X2 13 ?_|refine AF ?_;go_step|fail)
  go_end0
  exact ⟨rfl,Q,hQ,hS⟩
theorem Fj(W w0:World)(rs rs':List Af)(g n c a m b:Nat)(P:List Bu)(hS:St W w0 rs)(hp:AK (BG g n c P) rs rs')(ham:a<m)(hmb:m<b)(hb:b≤n)(hn:n≤1000000)(K:Value):
 Calls Tryz.prog 119 #[.slice (some ⟨g,0,none⟩) n c, .int .i64 a, .int .i64 m, .int .i64 b,K] w0 fun e w=>e= .returned (.tuple #[])∧∃Q,Hu a m b P Q∧St W w (BG g n c Q::rs'):=by
 replace hS:=hS.pull hp
 have hPl:=CR hS AK.head BV (by decide)
 obtain ⟨A0,U0,V0,B0,hP,hA0,hU0,hV0⟩:∃A U Y B:List Bu,P=A++(U++(Y++B))∧A.length=a∧U.length=m-a∧Y.length=b-m:=
  ⟨P.take a,(P.drop a).take (m-a),((P.drop a).drop (m-a)).take (b-m),((P.drop a).drop (m-a)).drop (b-m),by rw [List.take_append_drop,List.take_append_drop,List.take_append_drop],by simp;omega,by simp;omega,by simp;omega⟩
 have HG:Hid (∀Q,Q=A0++(V0++(U0++B0))→Hu a m b P Q):=fun Q h=>⟨A0,U0,V0,B0,hP,h,hA0,hU0,hV0⟩
 obtain ⟨T,hT⟩:∃T,A0++(V0++(U0++B0))=T:=⟨_,rfl⟩
 rw [hT] at HG
 rw [hP] at hS hPl
 clear hP hp
 go_enter Tryz.func119,Tryz.ntmps119
 repeat' (first
  | (refine AM 14 ?_);(refine AR (.int _ (((m-a:Nat):Int))) (V.as (V.subI rfl rfl (by omega)) (by omega)) (by kernel_rfl) ?_;go_step)|(refine AM 17 ?_);(refine AR (.int _ (((b-m:Nat):Int))) (V.as (V.subI rfl rfl (by omega)) (by omega)) (by kernel_rfl) ?_;go_step)|refine X0 ?_|refine AF ?_;go_step|fail)
 go_loopg [10,11] (b-a) (fun gk iv jv w=>∃(i j x:Nat) (A U Y B:List Bu),gk=i+j∧iv= .int .i64 i∧jv= .int .i64 j∧A.length=x∧U.length=i∧Y.length=j∧x+i=m∧m+j≤b∧1≤i∧1≤j∧A++(Y++(U++B))=T∧St W w (BG g n c (A++(U++(Y++B)))::rs'))
 case atStart=>exact ⟨m-a,b-m,a,A0,U0,V0,B0,by omega,rfl,rfl,hA0,hU0,hV0,by omega,by omega,by omega,by omega,hT,hS⟩
 case round=>
  clear hS hT hU0 hV0 hA0 hPl
  obtain ⟨i,j,x,A,U,Y,B,hk,rfl,rfl,hA,hU,hV,hxm,hmj,hi1,hj1,hT,hS⟩:=hrel
  by_cases hij:i=j
  ·repeat' (first
    | refine X1 ?_|refine OG 20 ?_|refine AF ?_;go_step|fail)
   repeat' (first
    | refine P8 53 ?_|(refine Av 120 ?_);refine Aw AA Tryz.call120 (Ck W _ _ rs' g n c x m i _ hS AK.head (by omega) (by omega) hn K) ?_;rintro e w ⟨rfl,Q,hQ,hS2⟩;replace hS:=hS2;clear hS2;refine A9 ?_;go_step|refine X1 ?_|refine AF ?_;go_step|fail)
   go_end0
   refine ⟨rfl,Q,HG.out Q ?_,hS⟩
   rw [←hxm,←hA] at hQ
   rw [hij] at hQ
   obtain ⟨U1,U2,e1,e2,e3,e4,e5⟩:=Hu.left (hij▸ hU) hV (Nat.le_refl _) hQ
   have:U2=[]:=List.eq_nil_of_length_eq_zero (by omega)
   subst this
   rw [e4,←hT,e5]
   simp
  by_cases hlt:j<i
  ·repeat' (first
    | refine X1 ?_|refine OG 20 ?_|refine J2 23 ?_|refine AF ?_;go_step|fail)
   repeat' (first
    | refine P8 27 ?_|(refine AM 34 ?_);(refine AR (.int _ (((i-j:Nat):Int))) (V.as (V.subI rfl rfl (by omega)) (by omega)) (by kernel_rfl) ?_;go_step)|(refine Av 120 ?_);refine Aw AA Tryz.call120 (Ck W _ _ rs' g n c x m j _ hS AK.head (by omega) (by omega) hn K) ?_;rintro e w ⟨rfl,Q,hQ,hS2⟩;replace hS:=hS2;clear hS2;refine A9 ?_;go_step|refine X0 ?_|refine AF ?_;go_step|fail)
   rw [←hxm,←hA] at hQ
   obtain ⟨U1,U2,e1,e2,e3,e4,e5⟩:=Hu.left hU hV (by omega) hQ
   rw [e4] at hS
   rw [e5] at hT
   clear hQ e1 e4 e5
   go_roundg (gk-j)
   case measure=>omega
   case rel=>exact ⟨i-j,j,x+j,A++Y,U2,U1,B,by omega,rfl,rfl,by simp;omega,e3,e2,by omega,by omega,by omega,by omega,hT,hS⟩
  repeat' (first
   | refine X1 ?_|refine OG 20 ?_|refine J2 23 ?_|refine AF ?_;go_step|fail)
  repeat' (first
   | refine P8 38 ?_|(refine AM 43 ?_);(refine AR (.int _ (((x+j:Nat):Int))) (V.as (V.subI rfl rfl (by omega)) (by omega)) (by kernel_rfl) ?_;go_step)|(refine AM 49 ?_);(refine AR (.int _ (((j-i:Nat):Int))) (V.as (V.subI rfl rfl (by omega)) (by omega)) (by kernel_rfl) ?_;go_step)|(refine Av 120 ?_);refine Aw AA Tryz.call120 (Ck W _ _ rs' g n c x (x+j) i _ hS AK.head (by omega) (by omega) hn K) ?_;rintro e w ⟨rfl,Q,hQ,hS2⟩;replace hS:=hS2;clear hS2;refine A9 ?_;go_step|refine X0 ?_|refine Ph 41 ?_|refine AF ?_;go_step|fail)
  rw [←hA] at hQ
  obtain ⟨V1,V2,e1,e2,e3,e4,e5⟩:=Hu.right hU hV (by omega) hQ
  rw [e4] at hS
  rw [e5] at hT
  clear hQ e1 e4 e5
  go_roundg (gk-i)
  case measure=>omega
  case rel=>exact ⟨i,j-i,x,A,V2,V1,U++B,by omega,rfl,rfl,hA,e3,e2,by omega,by omega,by omega,by omega,hT,hS⟩
abbrev Oo:Value:= .func (.func 74) #[] #[]
abbrev wk(P:List Bu)(i:Nat):Int:=(AN P i).w
theorem EF(x y:Int):F9 x y<0↔x<y:=by unfold F9;constructor<;>intro h<;>(repeat' split at h)<;>(repeat' split)<;>omega
theorem Ev(W w0:World)(rs rs':List Af)(g n c a b:Nat)(P:List Bu)(hS:St W w0 rs)(hp:AK (BG g n c P) rs rs')(hab:a≤b)(hb:b≤n)(hn:n≤1000000):
 Calls Tryz.prog 111 #[.slice (some ⟨g,0,none⟩) n c, .int .i64 a, .int .i64 b,Oo] w0 fun e w=>e= .returned (.tuple #[])∧∃Q,B7 Bu.w a b Q∧Rg a b P Q∧St W w (BG g n c Q::rs'):=by
 replace hS:=hS.pull hp
 have he:=BV
 have h1e:=He
 have hPl:=CR hS AK.head BV (by decide)
 go_enter Tryz.func111,Tryz.ntmps111
 repeat' (first
  | (refine AM 11 ?_);(refine AR (.int _ (((a+1:Nat):Int))) (V.as (V.addI rfl rfl (by omega)) (by omega)) (by kernel_rfl) ?_;go_step)|refine X0 ?_|refine AF ?_;go_step|fail)
 go_loopg [8] (b-a) (fun gk iv w=>∃(i:Nat) (Q:List Bu),gk+i=b+1∧a<i∧iv= .int .i64 i∧B7 Bu.w a i Q∧Rg a b P Q∧St W w (BG g n c Q::rs'))
 case atStart=>exact ⟨a+1,P,by omega,by omega,rfl,fun x y h1 h2 h3=>by rw [show x=y by omega];exact Int.le_refl _,Rg.refl a b P,hS⟩
 case round=>
  clear hS
  obtain ⟨i,Q,hi,hai,rfl,hA,hR,hS⟩:=hrel
  by_cases hlt:i<b
  ·obtain ⟨gk1,hgk1⟩:∃x,x=gk:=⟨_,rfl⟩
   subst hgk1
   have hQl:=hR.len
   have HA:=AD hA
   have HR:=AD hR
   clear hA hR
   repeat' (first
    | refine X0 ?_|refine X2 14 ?_|refine AF ?_;go_step|fail)
   repeat' (first
    | refine AF ?_;go_step|fail)
   go_loopg [9] (i-a) (fun gk jv w=>∃(j:Nat) (Z:List Bu),gk+a=j∧j≤i∧jv= .int .i64 j∧Dn i j Q Z∧(j<i→wk Q i≤wk Q j)∧Rg a b P Z∧St W w (BG g n c Z::rs'))
   case atStart=>exact ⟨i,Q,by omega,by omega,rfl,Dn.refl i Q,fun h=>by omega,HR.out,hS⟩
   case round=>
    clear hS
    obtain ⟨j,Z,hj,hji,rfl,hD,hhi,hR,hS⟩:=hrel
    by_cases hja:a<j
    ·obtain ⟨q,rfl⟩:∃q,j=q+1:=⟨j-1,by omega⟩
     obtain ⟨v,hv⟩:∃v,F9 (AN Z (q+1)).w (AN Z q).w=v:=⟨_,rfl⟩
     have hv2:=EF (AN Z (q+1)).w (AN Z q).w
     rw [hv] at hv2
     rw [hD.eq,hD.lo q (by omega)] at hv2
     have HV:=AD hv
     have HV2:=AD hv2
     have HD:=AD hD
     have HR2:=AD hR
     have HH:=AD hhi
     clear hv hv2 hD hR hhi
     repeat' (first
      | refine AF ?_;go_step|fail)
     refine AT [14] (fun w=>St W w (BG g n c Z::rs')) AA ?_
     replace hS:=hS.drew
     focus
      refine Ab 0 ?_
      refine Ab 1 ?_
      (refine N4 2 _ Cy AA AA AA Ei (V.gtr rfl rfl) AA (fun hB=>?_) (fun hB=>?_))
      rotate_left 1
      focus
       (try exact Ak)
       all_goals
        go_step
        refine Ab 3 ?_
        refine E6 4 ?_
        refine E6 5 ?_
        refine E6 6 ?_
        refine E6 7 ?_
        refine E6 8 ?_
        refine E6 9 ?_
        refine E6 10 ?_
        refine E6 11 ?_
        refine E6 12 ?_
        refine E6 13 ?_
        refine E6 14 ?_
        refine E6 15 ?_
        refine Gf 16 Cy AA AA AA Ei rfl AA ?_
        go_step
        refine AL AA ?_ _
      rotate_right 1
      focus
       (try exact Ak)
       all_goals
        go_step
        refine Ab 3 ?_
        refine Ab 4 ?_
        refine Ab 5 ?_
        refine Ab 6 ?_
        refine Y0 7 ?_
        refine Y2 8 [14,15,16] ?_
        refine Ab 9 ?_
        refine Ab 10 ?_
        (refine Bs 11 (.int _ (((q:Nat):Int))) Cy AA AA AA Ei (V.as (V.subI rfl rfl (by omega)) (by omega)) AA ?_)
        go_step
        refine Y0 12 ?_
        refine Y2 13 [14,15,16] ?_
        refine CC 14 ?_
        refine BT (f:=74) rfl rfl Tryz.call74 (Bl _ (AN Z (q+1)) (AN Z q)) ?_;rintro e w ⟨rfl,hE⟩;replace hS:=hS.ext hE;clear hE;rw [HV.out];refine ⟨_,rfl,?_⟩
        refine ⟨fun h=>absurd (by decide) h,?_⟩
        refine AJ ?_
        go_step
        refine DH 15 CY (V.lss rfl rfl) ?_;go_step
        refine Kq 16 Cy AA AA AA Ei rfl AA ?_
        go_step
        refine AL AA ?_ _
     by_cases hc:v<0
     ·repeat' (first
       | refine AF ?_;go_step|fail)
      refine AT [15,17] (fun w=>St W w (BG g n c Z::rs')) AA ?_
      replace hS:=hS.drew
      focus
       refine Ab 0 ?_
       refine Ab 1 ?_
       refine Ab 2 ?_
       refine Ab 3 ?_
       (refine Bs 4 (.int _ (((q:Nat):Int))) Cy AA AA AA Ei (V.as (V.subI rfl rfl (by omega)) (by omega)) AA ?_)
       go_step
       refine Ab 5 ?_
       refine Ab 6 ?_
       (refine Bs 7 (.int _ (((q:Nat):Int))) Cy AA AA AA Ei (V.as (V.subI rfl rfl (by omega)) (by omega)) AA ?_)
       go_step
       refine Y0 8 ?_
       refine Y2 9 [14,15,16,17] ?_
       refine Ab 10 ?_
       refine Ab 11 ?_
       refine Y0 12 ?_
       refine Y2 13 [14,15,16,17] ?_
       refine Y0 14 ?_
       refine CC 15 ?_
       refine Y5 ?_;clear hS;intro w hS
       refine Y0 16 ?_
       refine CC 17 ?_
       refine Y5 ?_;clear hS;intro w hS
       refine AL AA ?_ _
      repeat' (first
       | (refine AM 36 ?_);(refine AR (.int _ (((q:Nat):Int))) (V.as (V.subI rfl rfl (by omega)) (by omega)) (by kernel_rfl) ?_;go_step)|refine X0 ?_|refine AF ?_;go_step|fail)
      go_roundg (gk-1)
      case measure=>omega
      case rel=>exact ⟨q,Ip Z (q+1) q,by omega,by omega,by go_num,HD.out.step (by omega) (by omega) (by omega),fun _=>by have:=HV2.out.1 hc;exact Int.le_of_lt this,HR2.out.trans (Hj _ _ _ _ _ (by omega) (by omega) (by omega) (by omega) (by rw [HR2.out.len];omega)),hS⟩
     repeat' (first
      | (refine AM 16 ?_);(refine AR (.int _ (((i+1:Nat):Int))) (V.as (V.addI rfl rfl (by omega)) (by omega)) (by kernel_rfl) ?_;go_step)|refine X0 ?_|refine AF ?_;go_step|fail)
     go_roundg (gk1-1)
     case measure=>omega
     case rel=>
      refine ⟨i+1,Z,by omega,by omega,by go_num,HD.out.asc HA.out (by omega) (by omega) (fun _=>?_) (fun _=>HH.out (by omega)),HR2.out,hS⟩
      have:=HV2.out
      show (AN Q (q+1-1)).w≤(AN Q i).w
      rw [Nat.add_sub_cancel]
      omega
    obtain rfl:j=a:=by omega
    repeat' (first
     | refine AF ?_;go_step|fail)
    refine AT [14] (fun w=>St W w (BG g n c Z::rs')) AA ?_
    replace hS:=hS.drew
    focus
     refine Ab 0 ?_
     refine Ab 1 ?_
     (refine N4 2 _ Cy AA AA AA Ei (V.gtr rfl rfl) AA (fun hB=>?_) (fun hB=>?_))
     rotate_left 1
     focus
      (try exact Ak)
      all_goals
       go_step
       refine Ab 3 ?_
       refine E6 4 ?_
       refine E6 5 ?_
       refine E6 6 ?_
       refine E6 7 ?_
       refine E6 8 ?_
       refine E6 9 ?_
       refine E6 10 ?_
       refine E6 11 ?_
       refine E6 12 ?_
       refine E6 13 ?_
       refine E6 14 ?_
       refine E6 15 ?_
       refine Gf 16 Cy AA AA AA Ei rfl AA ?_
       go_step
       refine AL AA ?_ _
     rotate_right 1
     focus
      (try exact Ak)
    repeat' (first
     | (refine AM 16 ?_);(refine AR (.int _ (((i+1:Nat):Int))) (V.as (V.addI rfl rfl (by omega)) (by omega)) (by kernel_rfl) ?_;go_step)|refine X0 ?_|refine AF ?_;go_step|fail)
    go_roundg (gk1-1)
    case measure=>omega
    case rel=>exact ⟨i+1,Z,by omega,by omega,by go_num,hD.asc HA.out (by omega) (by omega) (fun _=>by omega) (fun _=>hhi (by omega)),hR,hS⟩
  repeat' (first
   | refine X1 ?_|refine X2 14 ?_|refine AF ?_;go_step|fail)
  go_end0
  exact ⟨rfl,Q,hA.sub (Nat.le_refl _) (by omega),hR,hS⟩
end Go.Proofs.YtngojkompmcceaaGreatDoor
