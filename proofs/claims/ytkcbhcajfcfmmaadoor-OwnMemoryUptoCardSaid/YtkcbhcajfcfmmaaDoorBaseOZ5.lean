/- What the laws OwnMemory need, part 5. -/
import Derived.Test.YtkcbhcajfcfmmaaDoorBaseOZ1
import Derived.Test.YtkcbhcajfcfmmaaDoorBaseOZ2
import Derived.Test.YtkcbhcajfcfmmaaDoorBaseOZ3
import Derived.Deep.MidRow
namespace Go.Proofs.YtkcbhcajfcfmmaaDoor
attribute [local irreducible] Region.wanted
set_option linter.unusedVariables false
set_option maxRecDepth 100000
set_option maxHeartbeats 8000000
section
variable{α:Type}[Inhabited α]
def AL(l:List α)(i:Nat):α:=l.getD i default
theorem GB(l:List α)(i j:Nat)(z:α)(h:i<l.length):AL (l.set i z) j=if i=j then z else AL l j:=by
 unfold AL
 simp only [List.getD_eq_getElem?_getD,List.getElem?_set]
 split
 ·simp
 rfl
theorem Ax(l m:List α)(i:Nat)(h:i<l.length):AL (l++m) i=AL l i:=by simp [AL,List.getElem?_append_left h]
theorem AW(l m:List α)(i:Nat)(h:l.length≤i):AL (l++m) i=AL m (i-l.length):=by simp [AL,List.getElem?_append_right h]
theorem LR{l:List α}{i:Nat}(h:i<l.length):AL l i∈l:=by simp [AL,h]
theorem IC{l:List α}{x:α}(h:x∈l):∃i,i<l.length∧AL l i=x:=by
 obtain ⟨i,hi,e⟩:=List.getElem_of_mem h
 exact ⟨i,hi,by simp [AL,hi,e]⟩
theorem EQ{l m:List α}(h:l.length=m.length)(k:∀i,i<l.length→AL l i=AL m i):l=m:=by
 apply List.ext_getElem h
 intro i h1 h2
 have:=k i h1
 simpa [AL,h1,h2] using this
theorem BN(l:List α)(n i:Nat)(h:i<n):AL (l.take n) i=AL l i:=by simp [AL,h]
theorem BM(l:List α)(n i:Nat):AL (l.drop n) i=AL l (n+i):=by simp [AL]
structure Rg(a b:Nat)(P P':List α):Prop where
 len:P'.length=P.length
 out:∀x,x<a∨b≤x→AL P' x=AL P x
 perm:((P'.drop a).take (b-a)).Perm ((P.drop a).take (b-a))
theorem Rg.refl(a b:Nat)(P:List α):Rg a b P P:=⟨rfl,fun _ _=>rfl,List.Perm.refl _⟩
theorem Rg.trans{a b:Nat}{P Q R:List α}(h:Rg a b P Q)(k:Rg a b Q R):Rg a b P R:=
 ⟨k.len.trans h.len,fun x hx=>(k.out x hx).trans (h.out x hx),k.perm.trans h.perm⟩
theorem Rg.from{a b:Nat}{P P':List α}(h:Rg a b P P')(hb:b≤P.length){x:Nat}(h1:a≤x)(h2:x<b):∃y,a≤y∧y<b∧AL P' x=AL P y:=by
 have hl:=h.len
 have e:AL P' x=AL ((P'.drop a).take (b-a)) (x-a):=by rw [BN _ _ _ (by omega),BM];congr 1;omega
 have hm:AL P' x∈(P'.drop a).take (b-a):=by rw [e];exact LR (by simp;omega)
 obtain ⟨i,hi,e2⟩:=IC (h.perm.mem_iff.1 hm)
 simp at hi
 exact ⟨a+i,by omega,by omega,by rw [←e2,BN _ _ _ (by omega),BM]⟩
theorem Rg.wide{a b c d:Nat}{P P':List α}(h:Rg a b P P')(hca:c≤a)(hbd:b≤d)(hab:a≤b)(hd:b≤P.length):Rg c d P P':=by
 refine ⟨h.len,fun x hx=>h.out x (by omega),?_⟩
 have cut:∀Q:List α,(Q.drop c).take (d-c)=(Q.drop c).take (a-c)++((Q.drop a).take (b-a)++(Q.drop b).take (d-b)):=fun Q=>by
  have e1:d-c=(a-c)+((b-a)+(d-b)):=by omega
  rw [e1,List.take_add,List.take_add,List.drop_drop,List.drop_drop]
  congr 4<;>omega
 have hl:=h.len
 rw [cut,cut]
 have e1:(P'.drop c).take (a-c)=(P.drop c).take (a-c):=EQ (by simp [hl]) fun i hi=>by
  simp at hi;rw [BN _ _ _ (by omega),BN _ _ _ (by omega),BM,BM,h.out _ (by omega)]
 have e2:(P'.drop b).take (d-b)=(P.drop b).take (d-b):=EQ (by simp [hl]) fun i hi=>by
  simp at hi;rw [BN _ _ _ (by omega),BN _ _ _ (by omega),BM,BM,h.out _ (by omega)]
 rw [e1,e2]
 exact List.Perm.append_left _ (List.Perm.append_right _ h.perm)
theorem Rg.all{P P':List α}(h:Rg 0 P.length P P'):P'.Perm P:=by
 have:=h.perm
 simp only [List.drop_zero,Nat.sub_zero,List.take_length] at this
 rwa [←h.len,List.take_length] at this
def H1(P:List α)(i j:Nat):List α:=(P.set i (AL P j)).set j (AL P i)
theorem C3(P:List α)(i j:Nat):(H1 P i j).length=P.length:=by simp [H1]
theorem Cu(P:List α)(i j x:Nat)(hi:i<P.length)(hj:j<P.length):AL (H1 P i j) x=if j=x then AL P i else if i=x then AL P j else AL P x:=by
 unfold H1
 rw [GB _ _ _ _ (by simpa using hj),GB _ _ _ _ hi]
theorem Hi(l:List α)(i:Nat)(z:α)(h:i<l.length):(AL l i::l.set i z).Perm (z::l):=by
 induction l generalizing i with
 | nil=>simp at h
 | cons a l ih=>
   cases i with
   | zero=>simp only [AL,List.getD_cons_zero,List.set_cons_zero];exact List.Perm.swap _ _ _
   | succ i=>
     have:=ih i (by simpa using h)
     simp only [List.set_cons_succ]
     have e:AL (a::l) (i+1)=AL l i:=by simp [AL]
     rw [e]
     exact (List.Perm.swap _ _ _).trans ((this.cons a).trans (List.Perm.swap _ _ _))
theorem Kv(P:List α)(i j:Nat)(hi:i<P.length)(hj:j<P.length):(H1 P i j).Perm P:=by
 unfold H1
 have h1:=Hi (P.set i (AL P j)) j (AL P i) (by simpa using hj)
 have h2:=Hi P i (AL P j) hi
 rw [GB _ _ _ _ hi] at h1
 have e:(if i=j then AL P j else AL P j)=AL P j:=by split<;>rfl
 rw [e] at h1
 exact (h1.trans h2).cons_inv
theorem GX(P:List α)(a b i j:Nat)(hi:a≤i)(hib:i<b)(hj:a≤j)(hjb:j<b)(hb:b≤P.length):Rg a b P (H1 P i j):=by
 refine ⟨C3 P i j,fun x hx=>by rw [Cu _ _ _ _ (by omega) (by omega),if_neg (by omega),if_neg (by omega)],?_⟩
 have e:((H1 P i j).drop a).take (b-a)=H1 ((P.drop a).take (b-a)) (i-a) (j-a):=by
  refine EQ (by simp [C3]) fun x hx=>?_
  simp [C3] at hx
  rw [BN _ _ _ (by omega),BM,Cu _ _ _ _ (by omega) (by omega),Cu _ _ _ _ (by simp;omega) (by simp;omega),BN _ _ (i-a) (by omega),BN _ _ (j-a) (by omega),BN _ _ x (by omega),BM,BM,BM]
  rw [show a+(i-a)=i by omega,show a+(j-a)=j by omega]
  by_cases h1:j=a+x
  ·rw [if_pos h1,if_pos (show j-a=x by omega)]
  rw [if_neg h1,if_neg (show ¬j-a=x by omega)]
  by_cases h2:i=a+x
  ·rw [if_pos h2,if_pos (show i-a=x by omega)]
  rw [if_neg h2,if_neg (show ¬i-a=x by omega)]
 rw [e]
 exact Kv _ _ _ (by simp;omega) (by simp;omega)
variable(key:α→Int)
def Bp(lo hi:Nat)(P:List α):Prop:=∀i j,lo≤i→i≤j→j<hi→key (AL P i)≤key (AL P j)
variable{key}
theorem Bp.same{lo hi:Nat}{P Q:List α}(h:Bp key lo hi P)(e:∀x,lo≤x→x<hi→AL Q x=AL P x):Bp key lo hi Q:=fun i j h1 h2 h3=>by
 rw [e i h1 (by omega),e j (by omega) h3];exact h i j h1 h2 h3
theorem Bp.sub{lo hi lo' hi':Nat}{P:List α}(h:Bp key lo hi P)(h1:lo≤lo')(h2:hi'≤hi):Bp key lo' hi' P:=fun i j k1 k2 k3=>h i j (by omega) k2 (by omega)
theorem Bp.pair{P:List α}(h:Bp key 0 P.length P):P.Pairwise (fun a b=>key a≤key b):=by
 rw [List.pairwise_iff_getElem]
 intro i j hi hj hij
 have:=h i j (by omega) (by omega) hj
 simpa [AL,hi,hj] using this
theorem Kq(A U V B:List α)(x:Nat):AL (A++(V++(U++B))) x=if x<A.length then AL (A++(U++(V++B))) x else if x<A.length+V.length then AL (A++(U++(V++B))) (x+U.length) else if x<A.length+V.length+U.length then AL (A++(U++(V++B))) (x-V.length) else AL (A++(U++(V++B))) x:=by
 by_cases h1:x<A.length
 ·rw [if_pos h1,Ax _ _ _ h1,Ax _ _ _ h1]
 rw [if_neg h1,AW _ _ _ (by omega)]
 by_cases h2:x<A.length+V.length
 ·rw [if_pos h2,Ax _ _ _ (by omega),AW A _ _ (by omega),AW U _ _ (by omega),Ax V _ _ (by omega)];congr 1;omega
 rw [if_neg h2,AW _ _ _ (by omega)]
 by_cases h3:x<A.length+V.length+U.length
 ·rw [if_pos h3,Ax _ _ _ (by omega),AW A _ _ (by omega),Ax U _ _ (by omega)];congr 1;omega
 rw [if_neg h3,AW U _ _ (by omega),AW A _ _ (by omega),AW U _ _ (by omega),AW V _ _ (by omega)];congr 1;omega
def Gc(a m b:Nat)(P P':List α):Prop:=∃A U V B,P=A++(U++(V++B))∧P'=A++(V++(U++B))∧A.length=a∧U.length=m-a∧V.length=b-m
theorem Gc.rg{a m b:Nat}{P P':List α}(h:Gc a m b P P')(h1:a≤m)(h2:m≤b):Rg a b P P':=by
 obtain ⟨A,U,V,B,rfl,rfl,rfl,hu,hv⟩:=h
 refine ⟨by simp;omega,fun x hx=>?_,?_⟩
 ·rw [Kq]
  rcases hx with hx|hx
  ·rw [if_pos hx]
  rw [if_neg (by omega),if_neg (by omega),if_neg (by omega)]
 rw [List.drop_left' rfl,List.drop_left' rfl,←List.append_assoc,←List.append_assoc,List.take_left' (by simp;omega),List.take_left' (by simp;omega)]
 exact List.perm_append_comm
theorem Gc.at{a m b:Nat}{P P':List α}(h:Gc a m b P P')(h1:a≤m)(h2:m≤b)(x:Nat):AL P' x=if x<a then AL P x else if x<a+(b-m) then AL P (x+(m-a)) else if x<b then AL P (x-(b-m)) else AL P x:=by
 obtain ⟨A,U,V,B,rfl,rfl,rfl,hu,hv⟩:=h
 rw [Kq,hu,hv]
 rw [show A.length+(b-m)+(m-A.length)=b by omega]
theorem Gc.triv{β:Type}{a m b:Nat}{P:List β}(h1:a≤m)(h2:m≤b)(hb:b≤P.length)(h:m=a∨m=b):Gc a m b P P:=by
 refine ⟨P.take a,(P.drop a).take (m-a),(P.drop m).take (b-m),P.drop b,?_,?_,by simp;omega,by simp;omega,by simp;omega⟩
 ·have e1:(P.drop m).take (b-m)++P.drop b=P.drop m:=by
   have:=List.take_append_drop (b-m) (P.drop m)
   rw [List.drop_drop,show m+(b-m)=b by omega] at this;exact this
  have e2:(P.drop a).take (m-a)++P.drop m=P.drop a:=by
   have:=List.take_append_drop (m-a) (P.drop a)
   rw [List.drop_drop,show a+(m-a)=m by omega] at this;exact this
  rw [e1,e2,List.take_append_drop]
 rcases h with rfl|rfl
 ·rw [Nat.sub_self,List.take_zero,List.nil_append]
  have e1:(P.drop m).take (b-m)++P.drop b=P.drop m:=by
   have:=List.take_append_drop (b-m) (P.drop m)
   rw [List.drop_drop,show m+(b-m)=b by omega] at this;exact this
  rw [e1,List.take_append_drop]
 rw [Nat.sub_self,List.take_zero,List.nil_append]
 have e2:(P.drop a).take (m-a)++P.drop m=P.drop a:=by
  have:=List.take_append_drop (m-a) (P.drop a)
  rw [List.drop_drop,show a+(m-a)=m by omega] at this;exact this
 rw [e2,List.take_append_drop]
theorem C4{a m b mid st en:Nat}{P Q:List α}(h1:Bp key a m P)(h2:Bp key m b P)(ham:a<m)(hmb:m<b)(hmid:mid=(a+b)/2)(hen:en=mid+m-st)(hs1:a≤st)(hs2:st≤m)(hs3:st≤mid)(he1:m≤en)(he2:en≤b)
 (hlo:a<st→m≤en→en<b→key (AL P (st-1))≤key (AL P en)) (hhi:m<en→st<m→key (AL P (en-1))≤key (AL P st)) (hr:Gc st m en P Q):
 Bp key a st Q∧Bp key st mid Q∧Bp key mid en Q∧Bp key en b Q∧∀x y,a≤x→x<mid→mid≤y→y<b→key (AL Q x)≤key (AL Q y):=by
 have ha:=hr.at hs2 he1
 have em:st+(en-m)=mid:=by omega
 rw [em] at ha
 have hA:∀x,x<st→AL Q x=AL P x:=fun x h=>by rw [ha,if_pos h]
 have hB:∀x,st≤x→x<mid→AL Q x=AL P (x+(m-st)):=fun x h h'=>by rw [ha,if_neg (by omega),if_pos h']
 have hC:∀x,mid≤x→x<en→AL Q x=AL P (x-(en-m)):=fun x h h'=>by rw [ha,if_neg (by omega),if_neg (by omega),if_pos h']
 have hD:∀x,en≤x→AL Q x=AL P x:=fun x h=>by rw [ha,if_neg (by omega),if_neg (by omega),if_neg (by omega)]
 clear ha hr
 refine ⟨h1.sub (Nat.le_refl _) hs2 |>.same fun x _ hx=>hA x hx,?_,?_,h2.sub he1 (Nat.le_refl _) |>.same fun x hx _=>hD x hx,?_⟩
 ·intro i j k1 k2 k3
  rw [hB i k1 (by omega),hB j (by omega) k3]
  exact h2 _ _ (by omega) (by omega) (by omega)
 ·intro i j k1 k2 k3
  rw [hC i k1 (by omega),hC j (by omega) k3]
  exact h1 _ _ (by omega) (by omega) (by omega)
 intro x y k1 k2 k3 k4
 by_cases c1:x<st
 ·rw [hA x c1]
  by_cases c2:y<en
  ·rw [hC y k3 c2];exact h1 _ _ (by omega) (by omega) (by omega)
  rw [hD y (by omega)]
  have t1:=h1 x (st-1) k1 (by omega) (by omega)
  have t2:=hlo (by omega) he1 (by omega)
  have t3:=h2 en y he1 (by omega) k4
  omega
 rw [hB x (by omega) k2]
 by_cases c2:y<en
 ·rw [hC y k3 c2]
  have t1:=h2 (x+(m-st)) (en-1) (by omega) (by omega) (by omega)
  have t2:=hhi (by omega) (by omega)
  have t3:=h1 st (y-(en-m)) hs1 (by omega) (by omega)
  omega
 rw [hD y (by omega)];exact h2 _ _ (by omega) (by omega) (by omega)
theorem Ak{a mid b:Nat}{Q R S:List α}(h1:a≤mid)(h2:mid≤b)(hb:b≤Q.length)(hx:∀x y,a≤x→x<mid→mid≤y→y<b→key (AL Q x)≤key (AL Q y))(r1:Rg a mid Q R)(r2:Rg mid b R S)(s1:Bp key a mid R)(s2:Bp key mid b S):Bp key a b S∧Rg a b Q S:=by
 refine ⟨fun i j k1 k2 k3=>?_,(r1.wide (Nat.le_refl _) h2 h1 (by omega)).trans (r2.wide h1 (Nat.le_refl _) h2 (by rw [r1.len];omega))⟩
 by_cases c1:j<mid
 ·rw [r2.out i (by omega),r2.out j (by omega)];exact s1 i j k1 k2 c1
 by_cases c2:i<mid
 ·obtain ⟨x,x1,x2,ex⟩:=r1.from (by omega) k1 c2
  obtain ⟨y,y1,y2,ey⟩:=r2.from (by rw [r1.len];omega) (show mid≤j by omega) k3
  rw [r2.out i (by omega),ex,ey,r1.out y (by omega)]
  exact hx x y x1 x2 y1 y2
 exact s2 i j (by omega) k2 k3
theorem LU{lo i p:Nat}{P Q:List α}(h1:Bp key lo i P)(hp1:lo≤p)(hp2:p≤i)(e1:∀x,x<p→AL Q x=AL P x)(e2:AL Q p=AL P i)(e3:∀x,p<x→x≤i→AL Q x=AL P (x-1))
 (hlo:lo<p→key (AL P (p-1))≤key (AL P i)) (hhi:p<i→key (AL P i)≤key (AL P p)):Bp key lo (i+1) Q:=by
 intro x y k1 k2 k3
 by_cases c1:x<p
 ·rw [e1 x c1]
  by_cases c2:y<p
  ·rw [e1 y c2];exact h1 x y k1 k2 (by omega)
  by_cases c3:y=p
  ·rw [c3,e2];have:=h1 x (p-1) k1 (by omega) (by omega);have:=hlo (by omega);omega
  rw [e3 y (by omega) (by omega)];exact h1 x (y-1) k1 (by omega) (by omega)
 by_cases c2:x=p
 ·rw [c2,e2]
  by_cases c3:y=p
  ·rw [c3,e2];exact Int.le_refl _
  rw [e3 y (by omega) (by omega)]
  have:=h1 p (y-1) (by omega) (by omega) (by omega);have:=hhi (by omega);omega
 rw [e3 x (by omega) (by omega),e3 y (by omega) (by omega)]
 exact h1 (x-1) (y-1) (by omega) (by omega) (by omega)
end
section
variable{α:Type}[Inhabited α]{key:α→Int}
structure Dn(i j:Nat)(P Q:List α):Prop where
 len:Q.length=P.length
 lo:∀x,x<j→AL Q x=AL P x
 eq:AL Q j=AL P i
 mid:∀x,j<x→x≤i→AL Q x=AL P (x-1)
 hi:∀x,i<x→AL Q x=AL P x
theorem Dn.refl(i:Nat)(P:List α):Dn i i P P:=⟨rfl,fun _ _=>rfl,rfl,fun x h1 h2=>by omega,fun _ _=>rfl⟩
theorem Dn.step{i j:Nat}{P Q:List α}(h:Dn i j P Q)(h1:0<j)(h2:j≤i)(h3:i<P.length):Dn i (j-1) P (H1 Q j (j-1)):=by
 have hl:=h.len
 have e:=fun x=>Cu Q j (j-1) x (by omega) (by omega)
 refine ⟨by rw [C3,hl],fun x hx=>?_,?_,fun x k1 k2=>?_,fun x hx=>?_⟩
 ·rw [e,if_neg (by omega),if_neg (by omega),h.lo x (by omega)]
 ·rw [e,if_pos rfl,h.eq]
 ·rw [e,if_neg (by omega)]
  by_cases c:j=x
  ·rw [if_pos c,h.lo _ (by omega),c]
  rw [if_neg c,h.mid x (by omega) k2]
 rw [e,if_neg (by omega),if_neg (by omega),h.hi x hx]
theorem Dn.asc{lo i p:Nat}{P Q:List α}(h:Dn i p P Q)(h1:Bp key lo i P)(hp1:lo≤p)(hp2:p≤i)(hlo:lo<p→key (AL P (p-1))≤key (AL P i))(hhi:p<i→key (AL P i)≤key (AL P p)):Bp key lo (i+1) Q:=
 LU h1 hp1 hp2 h.lo h.eq h.mid hlo hhi
structure LJ(a k:Nat)(P Q:List α):Prop where
 len:Q.length=P.length
 lo:∀x,x<a→AL Q x=AL P x
 mid:∀x,a≤x→x<k→AL Q x=AL P (x+1)
 eq:AL Q k=AL P a
 hi:∀x,k<x→AL Q x=AL P x
theorem LJ.refl(i:Nat)(P:List α):LJ i i P P:=⟨rfl,fun _ _=>rfl,fun x h1 h2=>by omega,rfl,fun _ _=>rfl⟩
theorem LJ.step{a k:Nat}{P Q:List α}(h:LJ a k P Q)(h1:a≤k)(h3:k+1<P.length):LJ a (k+1) P (H1 Q k (k+1)):=by
 have hl:=h.len
 have e:=fun x=>Cu Q k (k+1) x (by omega) (by omega)
 refine ⟨by rw [C3,hl],fun x hx=>?_,fun x k1 k2=>?_,?_,fun x hx=>?_⟩
 ·rw [e,if_neg (by omega),if_neg (by omega),h.lo x hx]
 ·rw [e,if_neg (by omega)]
  by_cases c:k=x
  ·rw [if_pos c,h.hi _ (by omega),c]
  rw [if_neg c,h.mid x k1 (by omega)]
 ·rw [e,if_pos rfl,h.eq]
 rw [e,if_neg (by omega),if_neg (by omega),h.hi x (by omega)]
theorem LJ.asc{a p b:Nat}{P Q:List α}(h:LJ a p P Q)(h1:Bp key (a+1) b P)(hp1:a≤p)(hp2:p<b)(hlo:a<p→key (AL P p)≤key (AL P a))(hhi:p+1<b→key (AL P a)≤key (AL P (p+1))):Bp key a b Q:=by
 intro x y k1 k2 k3
 by_cases c1:x<p
 ·rw [h.mid x k1 c1]
  by_cases c2:y<p
  ·rw [h.mid y (by omega) c2];exact h1 _ _ (by omega) (by omega) (by omega)
  by_cases c3:y=p
  ·rw [c3,h.eq];have:=h1 (x+1) p (by omega) (by omega) (by omega);have:=hlo (by omega);omega
  rw [h.hi y (by omega)];exact h1 _ _ (by omega) (by omega) (by omega)
 by_cases c2:x=p
 ·rw [c2,h.eq]
  by_cases c3:y=p
  ·rw [c3,h.eq];exact Int.le_refl _
  rw [h.hi y (by omega)]
  have:=hhi (by omega);have:=h1 (p+1) y (by omega) (by omega) (by omega);omega
 rw [h.hi x (by omega),h.hi y (by omega)];exact h1 _ _ (by omega) (by omega) (by omega)
structure Ij(a b t:Nat)(P Q:List α):Prop where
 len:Q.length=P.length
 one:∀x,a≤x→x<a+t→AL Q x=AL P (x-a+b)
 two:∀x,b≤x→x<b+t→AL Q x=AL P (x-b+a)
 out:∀x,(x<a∨a+t≤x)→(x<b∨b+t≤x)→AL Q x=AL P x
theorem Ij.refl(a b:Nat)(P:List α):Ij a b 0 P P:=⟨rfl,fun x h1 h2=>by omega,fun x h1 h2=>by omega,fun _ _ _=>rfl⟩
theorem Ij.step{a b t:Nat}{P Q:List α}(h:Ij a b t P Q)(h1:a+t<b)(h2:b+t<P.length):Ij a b (t+1) P (H1 Q (a+t) (b+t)):=by
 have hl:=h.len
 have e:=fun x=>Cu Q (a+t) (b+t) x (by omega) (by omega)
 refine ⟨by rw [C3,hl],fun x k1 k2=>?_,fun x k1 k2=>?_,fun x k1 k2=>?_⟩
 ·rw [e,if_neg (by omega)]
  by_cases c:a+t=x
  ·rw [if_pos c,h.out _ (by omega) (by omega)];congr 1;omega
  rw [if_neg c,h.one x k1 (by omega)]
 ·rw [e]
  by_cases c:b+t=x
  ·rw [if_pos c,h.out _ (by omega) (by omega)];congr 1;omega
  rw [if_neg c,if_neg (by omega),h.two x k1 (by omega)]
 rw [e,if_neg (by omega),if_neg (by omega),h.out x (by omega) (by omega)]
theorem Ij.blocks{A U C V B Q:List α}{n:Nat}(hu:U.length=n)(hv:V.length=n)(h:Ij A.length (A.length+n+C.length) n (A++(U++(C++(V++B)))) Q):Q=A++(V++(C++(U++B))):=by
 have hl:=h.len
 refine EQ (by rw [hl];simp;omega) fun x hx=>?_
 rw [hl] at hx
 simp at hx
 by_cases c1:x<A.length
 ·rw [h.out x (by omega) (by omega),Ax _ _ _ c1,Ax _ _ _ c1]
 rw [AW A (V++(C++(U++B))) _ (by omega)]
 by_cases c2:x<A.length+n
 ·rw [h.one x (by omega) c2,Ax V _ _ (by omega),AW A _ _ (by omega),AW U _ _ (by omega),AW C _ _ (by omega),Ax V _ _ (by omega)];congr 1;omega
 rw [AW V (C++(U++B)) _ (by omega)]
 by_cases c3:x<A.length+n+C.length
 ·rw [h.out x (by omega) (by omega),Ax C (U++B) _ (by omega),AW A _ _ (by omega),AW U _ _ (by omega),Ax C _ _ (by omega)];congr 1;omega
 rw [AW C (U++B) _ (by omega)]
 by_cases c4:x<A.length+n+C.length+n
 ·rw [h.two x (by omega) c4,Ax U B _ (by omega),AW A _ _ (by omega),Ax U _ _ (by omega)];congr 1;omega
 rw [h.out x (by omega) (by omega),AW U B _ (by omega),AW A _ _ (by omega),AW U _ _ (by omega),AW C _ _ (by omega),AW V _ _ (by omega)];congr 1;omega
theorem Gc.left{A U V B Q:List α}{i j:Nat}(hu:U.length=i)(hv:V.length=j)(hij:j≤i)(h:Ij A.length (A.length+i) j (A++(U++(V++B))) Q):
 ∃U1 U2,U=U1++U2∧U1.length=j∧U2.length=i-j∧Q=(A++V)++(U2++(U1++B))∧A++(V++(U++B))=(A++V)++(U1++(U2++B)):=by
 have e:U=U.take j++U.drop j:=(List.take_append_drop _ _).symm
 refine ⟨U.take j,U.drop j,e,by simp;omega,by simp;omega,?_,?_⟩
 ·rw [e,List.append_assoc] at h
  have:=Ij.blocks (A:=A) (U:=U.take j) (C:=U.drop j) (V:=V) (B:=B) (n:=j) (Q:=Q) (by simp;omega) hv (by
   rw [show A.length+j+(U.drop j).length=A.length+i by simp;omega];exact h)
  rw [this,List.append_assoc]
 conv=>lhs;rw [e]
 simp only [List.append_assoc]
theorem Gc.right{A U V B Q:List α}{i j:Nat}(hu:U.length=i)(hv:V.length=j)(hij:i≤j)(h:Ij A.length (A.length+j) i (A++(U++(V++B))) Q):
 ∃V1 V2,V=V1++V2∧V1.length=j-i∧V2.length=i∧Q=A++(V2++(V1++(U++B)))∧A++(V++(U++B))=A++(V1++(V2++(U++B))):=by
 have e:V=V.take (j-i)++V.drop (j-i):=(List.take_append_drop _ _).symm
 refine ⟨V.take (j-i),V.drop (j-i),e,by simp;omega,by simp;omega,?_,?_⟩
 ·rw [e,List.append_assoc] at h
  have:=Ij.blocks (A:=A) (U:=U) (C:=V.take (j-i)) (V:=V.drop (j-i)) (B:=B) (n:=i) (Q:=Q) hu (by simp;omega) (by
   rw [show A.length+i+(V.take (j-i)).length=A.length+j by simp;omega];exact h)
  exact this
 conv=>lhs;rw [e]
 simp only [List.append_assoc]
end
end Go.Proofs.YtkcbhcajfcfmmaaDoor
namespace Go.Proofs.YtkcbhcajfcfmmaaDoor
attribute [local irreducible] Region.wanted
open Go.RowKit
set_option linter.unusedVariables false
set_option maxRecDepth 100000
set_option maxHeartbeats 8000000
theorem Bv{α:Type}(enc:α→List Value)(m:Nat)(he:∀x,(enc x).length=m)(l:List α):(l.flatMap enc).length=l.length*m:=by
 induction l with
 | nil=>simp
 | cons x l ih=>rw [List.flatMap_cons,List.length_append,ih,he,List.length_cons,Nat.add_mul,Nat.one_mul,Nat.add_comm]
theorem Dk(w:World)(g:Nat)(t:TypeId)(A B D:List Value):∀(vs B A:List Value)(w:World)(cur:Array Value),w.heap[g]? =some (.cells cur t)→cur.toList=A++(B++D)→B.length=vs.length→∃cur':Array Value,(w.setCells g A.length vs).heap[g]? =some (.cells cur' t)∧cur'.toList=A++(vs++D)∧CE [g] w (w.setCells g A.length vs)
 | [],[],A,w,cur,h,e,_=>⟨cur,h,e,⟨rfl,rfl,rfl,Nat.le_refl _,fun _ _ _=>rfl⟩⟩
 | [],_::_,A,w,cur,h,e,hl=>by simp at hl
 | _::_,[],A,w,cur,h,e,hl=>by simp at hl
 | v::vs,b::B,A,w,cur,h,e,hl=>by
   have h1:=heap_setCell_same w g A.length cur t v h
   have e1:(cur.setIfInBounds A.length v).toList=(A++[v])++(B++D):=by
    rw [Array.toList_setIfInBounds,e];simp
   obtain ⟨cur',h2,h3,h4⟩:=Dk w g t A B D vs B (A++[v]) _ _ h1 e1 (by simpa using hl)
   have e2:w.setCells g A.length (v::vs)=(w.setCell ⟨g,A.length,none⟩ v).setCells g (A++[v]).length vs:=by
    rw [World.setCells,List.length_append];rfl
   rw [e2]
   have h5:=CE.setCell w ⟨g,A.length,none⟩ v
   exact ⟨cur',h2,by rw [h3];simp,⟨h4.os.trans h5.os,h4.tape.trans h5.tape,h4.output.trans h5.output,Nat.le_trans h5.size h4.size,fun k hk hm=>(h4.block k (Nat.lt_of_lt_of_le hk h5.size) hm).trans (h5.block k hk hm)⟩⟩
section
variable{α:Type}[Inhabited α]
theorem GF(enc:α→List Value)(m:Nat)(he:∀x,(enc x).length=m):∀(l:List α)(j:Nat),j<l.length→((l.flatMap enc).drop (j*m)).take m=enc (AL l j)
 | [],j,h=>by simp at h
 | x::l,0,h=>by rw [Nat.zero_mul,List.drop_zero,List.flatMap_cons,List.take_left' (he x)];simp [AL]
 | x::l,j+1,h=>by
   rw [List.flatMap_cons,Nat.add_mul,Nat.one_mul,Nat.add_comm,←List.drop_drop,List.drop_left' (he x),GF enc m he l j (by simpa using h)]
   simp [AL]
theorem Gx(enc:α→List Value)(m:Nat)(he:∀x,(enc x).length=m)(z:α):∀(l:List α)(j:Nat),j<l.length→∃A B,l.flatMap enc=A++(enc (AL l j)++B)∧(l.set j z).flatMap enc=A++(enc z++B)∧A.length=j*m
 | [],j,h=>by simp at h
 | x::l,0,h=>⟨[],l.flatMap enc,by simp [AL],by simp,by simp⟩
 | x::l,j+1,h=>by
   obtain ⟨A,B,e1,e2,e3⟩:=Gx enc m he z l j (by simpa using h)
   refine ⟨enc x++A,B,?_,?_,?_⟩
   ·rw [List.flatMap_cons,e1,List.append_assoc];simp [AL]
   ·rw [List.set_cons_succ,List.flatMap_cons,e2,List.append_assoc]
   rw [List.length_append,he,e3,Nat.add_mul,Nat.one_mul,Nat.add_comm]
end
section
variable{α:Type}{P:Program}{W w:World}{rs rs':List Ac}{Q:Exit→Act→World→Prop}{K:Act→World→Prop}{o:Oper}{a:Act}
theorem B7{e:TypeId}{n c m:Nat}{ad:Option Addr}{enc:α→List Value}{l:List α}(hS:St W w rs)(hp:AI (own e m ad n c (l.flatMap enc)) rs rs')(he:∀x,(enc x).length=m)(hm:0<m):l.length=n:=by
 have:=(hS.own hp).1
 rw [Bv enc m he] at this
 exact Nat.eq_of_mul_eq_mul_right hm this
theorem Hw(hS:St W w rs)(ty:TypeId)(x:Operand)(ho:o.op= .load ty x)(g q:Nat)(hx:a.eval x= .pointer (some ⟨g,q,none⟩))(m:Nat)(h1:Ch P ty m)(e:TypeId)(n c:Nat)(l:List α)(enc:α→List Value)(hp:AI (own e m (some ⟨g,0,none⟩) n c (l.flatMap enc)) rs rs')
 (inst:Inhabited α) (he:∀x,(enc x).length=m) (j:Nat) (hq:q=j*m) (hj:j<n) (h:K (a.put o.dst (.agg (enc (AL l j)).toArray)) w):o.wp P a w K Q:=by
 subst hq
 have hl:=(hS.own hp).1
 rw [Bv enc m he] at hl
 refine CR ty x ho g _ hx m h1 (enc (AL l j)) (he _) ?_ h
 have:=Jd (off:=j*m) (m:=m) hS hp
 rcases Nat.eq_zero_or_pos m with h0|h0
 ·have e0:enc (AL l j)=[]:=List.eq_nil_of_length_eq_zero (by rw [he,h0])
  rw [e0];intro i v hv;simp at hv
 have hln:l.length=n:=Nat.eq_of_mul_eq_mul_right h0 hl
 rwa [GF enc m he l j (by omega)] at this
theorem F0(hS:St W w rs)(ty:TypeId)(x:Operand)(ho:o.op= .load ty x)(g q:Nat)(hx:a.eval x= .pointer (some ⟨g,q,none⟩))(h1:FL P ty)(e:TypeId)(m n c:Nat)(l:List α)(enc:α→List Value)(hp:AI (own e m (some ⟨g,0,none⟩) n c (l.flatMap enc)) rs rs')
 (inst:Inhabited α) (he:∀x,(enc x).length=m) (j f:Nat) (hq:q=j*m+f) (hj:j<n) (v:Value) (hv:(enc (AL l j))[f]? =some v) (h:K (a.put o.dst v) w):o.wp P a w K Q:=by
 subst hq
 have hf:f<m:=by rw [←he (AL l j)];exact (List.getElem?_eq_some_iff.1 hv).1
 have hl:=B7 hS hp he (by omega)
 refine C9 hS ty x ho g _ hx h1 e m n c _ hp v ?_ h
 have:=GF enc m he l j (by omega)
 rw [←this,List.getElem?_take,if_pos hf,List.getElem?_drop] at hv
 exact hv
theorem Ib(hS:St W w rs)(ty:TypeId)(x:Operand)(ho:o.op= .load ty x)(g q:Nat)(hx:a.eval x= .pointer (some ⟨g,q,none⟩))(h1:FL P ty)(e:TypeId)(m n c:Nat)(l:List α)(enc:α→List Value)(hp:AI (own e m (some ⟨g,0,none⟩) n c (l.flatMap enc)) rs rs')
 (inst:Inhabited α) (he:∀x,(enc x).length=m) (j:Nat) (hq:q=j*m) (hj:j<n) (v:Value) (hv:(enc (AL l j))[0]? =some v) (h:K (a.put o.dst v) w):o.wp P a w K Q:=
 F0 hS ty x ho g q hx h1 e m n c l enc hp inst he j 0 hq hj v hv h
theorem Jx(hS:St W w rs)(ty:TypeId)(x y:Operand)(ho:o.op= .store ty x y)(g q:Nat)(hx:a.eval x= .pointer (some ⟨g,q,none⟩))(m:Nat)(h1:Ch P ty m)(e:TypeId)(n c:Nat)(l:List α)(enc:α→List Value)(hp:AI (own e m (some ⟨g,0,none⟩) n c (l.flatMap enc)) rs rs')
 (inst:Inhabited α) (he:∀x,(enc x).length=m) (hone:∀x,(enc x).all (·.oneCell')=true) (j:Nat) (hq:q=j*m) (hj:j<n) (z:α) (hy:a.eval y= .agg (enc z).toArray) (hd:o.dst=none) (h:∀w',St W w' (own e m (some ⟨g,0,none⟩) n c ((l.set j z).flatMap enc)::rs')→K a w'):o.wp P a w K Q:=by
 subst hq
 have hown:=hS.own hp
 have hlen:=hown.1
 rw [Bv enc m he] at hlen
 rcases hown.2 with ⟨h2,_⟩|⟨g',cap,cur,h2,hb,hg,hn,hc,hsz,htake⟩
 ·cases h2
 cases h2
 have hln:m=0∨l.length=n:=by
  rcases Nat.eq_zero_or_pos m with h0|h0
  ·exact .inl h0
  exact .inr (Nat.eq_of_mul_eq_mul_right h0 hlen)
 have hjm:j*m+m≤n*m:=by have:=Nat.mul_le_mul_right m hj;rwa [Nat.succ_mul] at this
 have hcm:n*m≤c*m:=Nat.mul_le_mul_right m hn
 refine wp_store_mid ty x y ho g (j*m) (enc z).toArray hx hy ?_ (by rw [h1.2];simp [he]) (by simpa using hone z) ?_
 ·intro i hi
  rw [List.size_toArray,he] at hi
  refine ⟨?_,frozen_of_row w g _ cur e hg⟩
  have:=Dh hS hp (k:=j*m+i) (v:=(l.flatMap enc)[j*m+i]'(by rw [Bv enc m he];omega)) (by rw [List.getElem?_eq_getElem])
  rw [this];rfl
 rw [show a.put o.dst undef=a by rw [hd];rfl]
 refine h _ ?_
 refine St.change (rs1:=[own e m (some ⟨g,0,none⟩) n c ((l.set j z).flatMap enc)]) (hS.pull hp) fun f1 k1 _ _=>?_
 obtain ⟨rfl,_⟩:=k1
 rcases hln with h0|hln
 ·have e0:∀y,enc y=[]:=fun y=>List.eq_nil_of_length_eq_zero (by rw [he,h0])
  have e1:∀l:List α,l.flatMap enc=[]:=fun l=>List.eq_nil_of_length_eq_zero (by rw [Bv enc m he,h0,Nat.mul_zero])
  rw [e0,e1]
  refine ⟨[g],⟨[g],[],rfl,⟨rfl,by simp [h0], .inr ⟨g,c,cur,rfl,hb,hg,hn,hc,hsz,by rw [h0];simp⟩⟩,rfl⟩,by simp,fun b hb=> .inl hb,⟨rfl,rfl,rfl,Nat.le_refl _,fun _ _ _=>rfl⟩⟩
 obtain ⟨A,B,e1,e2,e3⟩:=Gx enc m he z l j (by omega)
 have ecur:cur.toList=A++(enc (AL l j)++(B++cur.toList.drop (n*m))):=by
  conv=>lhs;rw [←List.take_append_drop (n*m) cur.toList,htake,e1]
  simp
 obtain ⟨cur',k2,k3,k4⟩:=Dk w g e [] [] (B++cur.toList.drop (n*m)) (enc z) (enc (AL l j)) A w cur hg ecur (by rw [he,he])
 rw [←e3]
 have hAB:(A++(enc z++B)).length=n*m:=by rw [←e2,Bv enc m he,List.length_set,hln]
 refine ⟨[g],⟨[g],[],rfl,⟨rfl,by rw [Bv enc m he,List.length_set,hln], .inr ⟨g,c,cur',rfl,hb,k2,hn,hc,?_,?_⟩⟩,rfl⟩,by simp,fun b hb=> .inl hb,k4⟩
 ·have a1:=congrArg List.length k3
  have a2:=congrArg List.length ecur
  simp only [List.length_append,Array.length_toList,he] at a1 a2
  omega
 have a3:cur'.toList=(A++(enc z++B))++cur.toList.drop (n*m):=by rw [k3];simp
 rw [a3,List.take_left' hAB,e2]
end
structure Bg where
 w:Int
 ad:Option Addr
 n:Nat
 c:Nat
instance:Inhabited Bg:=⟨⟨0,none,0,0⟩⟩
def FY(p:Bg):List Value:=[.int .i64 p.w, .slice p.ad p.n p.c]
theorem BP:∀p,(FY p).length=2:=fun _=>rfl
theorem GM:∀p,(FY p).all (·.oneCell')=true:=fun _=>rfl
def FQ(x y:Int):Int:=if x<y then -1 else if y<x then 1 else 0
theorem JU(w:World)(x:Int):Calls Tryd.prog 49 #[.int .i64 x] w fun e w'=>e= .returned (.bool false)∧AX w w':=by
 have hS:=St.start w
 go_enter Tryd.func49,Tryd.ntmps49
 repeat' (first
  | refine X0 ?_|refine NM ?_|refine AG ?_;go_step|fail)
 all_goals go_ret
 all_goals exact ⟨by simp,hS.1⟩
theorem Gl(w:World)(x y:Int):Calls Tryd.prog 39 #[.int .i64 x, .int .i64 y] w fun e w'=>e= .returned (.int .i64 (FQ x y))∧AX w w':=by
 have hS:=St.start w
 go_enter Tryd.func39,Tryd.ntmps39
 repeat' (first
  | (refine Am 49 ?_);refine An AB Tryd.call49 (JU _ _) (Gd hS ?_);clear hS;intro w hS;go_step|refine X0 ?_|refine X3 ?_|refine K8 ?_|refine AG ?_;go_step|fail)
 all_goals go_ret
 all_goals (refine ⟨?_,hS.1⟩;unfold FQ;first|(rw [if_pos (by omega)];rfl)|(rw [if_neg (by omega),if_pos (by omega)];rfl)|(rw [if_neg (by omega),if_neg (by omega)];rfl))
theorem Bb(w:World)(p q:Bg):Calls Tryd.prog 27 #[.agg (FY p).toArray, .agg (FY q).toArray] w fun e w'=>e= .returned (.int .i64 (FQ p.w q.w))∧AX w w':=by
 have hS:=St.start w
 obtain ⟨x,ap,np,cp⟩:=p
 obtain ⟨y,aq,nq,cq⟩:=q
 simp only [FY]
 go_enter Tryd.func27,Tryd.ntmps27
 repeat' (first
  | (refine Am 39 ?_);refine An AB Tryd.call39 (Gl _ _ _) (Gd hS ?_);clear hS;intro w hS;go_step|refine X8 ?_|(with_reducible refine Az _ (.fieldAddr 62 _ 0) ?_);(refine Av AB (V.fieldAddr IJ rfl CD) ?_;go_step)|(refine AU 2 ?_);(refine A3 ?_;apply EV (o:=⟨some 2,_,_,_,_,_⟩) hS 62 _ rfl _ rfl;clear hS;intro g2 w hS;refine AC ?_;go_step)|(refine AU 3 ?_);(refine A3 ?_;apply EV (o:=⟨some 3,_,_,_,_,_⟩) hS 62 _ rfl _ rfl;clear hS;intro g3 w hS;refine AC ?_;go_step)|(with_reducible refine Az _ (.load 3 _) ?_);(refine A3 ?_;apply CQ hS 3 _ rfl _ _ rfl (Ab rfl) _;(case hp=>exact AQ);(case hc=>rfl);refine AC ?_;go_step)|refine AG ?_;go_step|fail)
 all_goals go_ret
 all_goals exact ⟨rfl,hS.1⟩
abbrev BF(g n c:Nat)(P:List Bg):Ac:=own 62 2 (some ⟨g,0,none⟩) n c (P.flatMap FY)
theorem CK(W w0:World)(rs rs':List Ac)(g n c a b k:Nat)(P:List Bg)(hS:St W w0 rs)(hp:AI (BF g n c P) rs rs')(hab:a+k≤b)(hb:b+k≤n)(hn:n≤1000000)(K:Value):
 Calls Tryd.prog 62 #[.slice (some ⟨g,0,none⟩) n c, .int .i64 a, .int .i64 b, .int .i64 k,K] w0 fun e w=>e= .returned (.tuple #[])∧∃Q,Ij a b k P Q∧St W w (BF g n c Q::rs'):=by
 replace hS:=hS.pull hp
 have he:=BP
 have h1e:=GM
 have hPl:=B7 hS AI.head BP (by decide)
 go_enter Tryd.func62,Tryd.ntmps62
 repeat' (first
  | refine X8 ?_|refine AG ?_;go_step|fail)
 go_loopg [10] k (fun gk iv w=>∃(i:Nat) (Q:List Bg),gk+i=k∧iv= .int .i64 i∧Ij a b i P Q∧St W w (BF g n c Q::rs'))
 case atStart=>exact ⟨0,P,by omega,rfl,Ij.refl a b P,hS⟩
 case round=>
  clear hS
  obtain ⟨i,Q,hi,rfl,hQ,hS⟩:=hrel
  by_cases hlt:i<k
  ·have hQ2:=hQ.step (by omega) (by omega)
   have HQ:=AD hQ2
   clear hQ hQ2
   repeat' (first
    | refine X1 ?_|refine X2 13 ?_|refine AG ?_;go_step|fail)
   refine AZ [21,23] (fun w=>St W w (BF g n c Q::rs')) AB ?_
   replace hS:=hS.drew
   focus
    refine Ai 0 ?_
    refine Ai 1 ?_
    refine Ai 2 ?_
    (refine BJ 3 (.int _ (((a+i:Nat):Int))) Cf AB AB AB Cv (V.as (V.addI rfl rfl (by omega)) (by omega)) AB ?_)
    go_step
    refine Ai 4 ?_
    refine Ai 5 ?_
    refine Ai 6 ?_
    (refine BJ 7 (.int _ (((b+i:Nat):Int))) Cf AB AB AB Cv (V.as (V.addI rfl rfl (by omega)) (by omega)) AB ?_)
    go_step
    refine Ai 8 ?_
    refine Ai 9 ?_
    refine Ai 10 ?_
    (refine BJ 11 (.int _ (((b+i:Nat):Int))) Cf AB AB AB Cv (V.as (V.addI rfl rfl (by omega)) (by omega)) AB ?_)
    go_step
    refine Y0 12 ?_
    refine Y1 13 [20,21,22,23] ?_
    refine Ai 14 ?_
    refine Ai 15 ?_
    refine Ai 16 ?_
    (refine BJ 17 (.int _ (((a+i:Nat):Int))) Cf AB AB AB Cv (V.as (V.addI rfl rfl (by omega)) (by omega)) AB ?_)
    go_step
    refine Y0 18 ?_
    refine Y1 19 [20,21,22,23] ?_
    refine Y0 20 ?_
    refine Cb 21 ?_
    refine Y2 ?_;clear hS;intro w hS
    refine Y0 22 ?_
    refine Cb 23 ?_
    refine Y2 ?_;clear hS;intro w hS
    refine AO AB ?_ _
   repeat' (first
    | refine X0 ?_|refine J5 15 ?_|refine AG ?_;go_step|fail)
   go_roundg (gk-1)
   case measure=>omega
   case rel=>exact ⟨i+1,H1 Q (a+i) (b+i),by omega,by go_num,HQ.out,hS⟩
  obtain rfl:i=k:=by omega
  repeat' (first
   | refine X1 ?_|refine X2 13 ?_|refine AG ?_;go_step|fail)
  go_end0
  exact ⟨rfl,Q,hQ,hS⟩
theorem Ey(W w0:World)(rs rs':List Ac)(g n c a m b:Nat)(P:List Bg)(hS:St W w0 rs)(hp:AI (BF g n c P) rs rs')(ham:a<m)(hmb:m<b)(hb:b≤n)(hn:n≤1000000)(K:Value):
 Calls Tryd.prog 58 #[.slice (some ⟨g,0,none⟩) n c, .int .i64 a, .int .i64 m, .int .i64 b,K] w0 fun e w=>e= .returned (.tuple #[])∧∃Q,Gc a m b P Q∧St W w (BF g n c Q::rs'):=by
 replace hS:=hS.pull hp
 have hPl:=B7 hS AI.head BP (by decide)
 obtain ⟨A0,U0,V0,B0,hP,hA0,hU0,hV0⟩:∃A U Y B:List Bg,P=A++(U++(Y++B))∧A.length=a∧U.length=m-a∧Y.length=b-m:=
  ⟨P.take a,(P.drop a).take (m-a),((P.drop a).drop (m-a)).take (b-m),((P.drop a).drop (m-a)).drop (b-m),by rw [List.take_append_drop,List.take_append_drop,List.take_append_drop],by simp;omega,by simp;omega,by simp;omega⟩
 have HG:Hid (∀Q,Q=A0++(V0++(U0++B0))→Gc a m b P Q):=fun Q h=>⟨A0,U0,V0,B0,hP,h,hA0,hU0,hV0⟩
 obtain ⟨T,hT⟩:∃T,A0++(V0++(U0++B0))=T:=⟨_,rfl⟩
 rw [hT] at HG
 rw [hP] at hS hPl
 clear hP hp
 go_enter Tryd.func58,Tryd.ntmps58
 repeat' (first
  | (refine AU 14 ?_);(refine AP (.int _ (((m-a:Nat):Int))) (V.as (V.subI rfl rfl (by omega)) (by omega)) (by kernel_rfl) ?_;go_step)|(refine AU 17 ?_);(refine AP (.int _ (((b-m:Nat):Int))) (V.as (V.subI rfl rfl (by omega)) (by omega)) (by kernel_rfl) ?_;go_step)|refine X0 ?_|refine AG ?_;go_step|fail)
 go_loopg [10,11] (b-a) (fun gk iv jv w=>∃(i j x:Nat) (A U Y B:List Bg),gk=i+j∧iv= .int .i64 i∧jv= .int .i64 j∧A.length=x∧U.length=i∧Y.length=j∧x+i=m∧m+j≤b∧1≤i∧1≤j∧A++(Y++(U++B))=T∧St W w (BF g n c (A++(U++(Y++B)))::rs'))
 case atStart=>exact ⟨m-a,b-m,a,A0,U0,V0,B0,by omega,rfl,rfl,hA0,hU0,hV0,by omega,by omega,by omega,by omega,hT,hS⟩
 case round=>
  clear hS hT hU0 hV0 hA0 hPl
  obtain ⟨i,j,x,A,U,Y,B,hk,rfl,rfl,hA,hU,hV,hxm,hmj,hi1,hj1,hT,hS⟩:=hrel
  by_cases hij:i=j
  ·repeat' (first
    | refine X1 ?_|refine X7 20 ?_|refine AG ?_;go_step|fail)
   repeat' (first
    | refine OW 53 ?_|(refine Am 62 ?_);refine An AB Tryd.call62 (CK W _ _ rs' g n c x m i _ hS AI.head (by omega) (by omega) hn K) ?_;rintro e w ⟨rfl,Q,hQ,hS2⟩;replace hS:=hS2;clear hS2;refine As ?_;go_step|refine X1 ?_|refine AG ?_;go_step|fail)
   go_end0
   refine ⟨rfl,Q,HG.out Q ?_,hS⟩
   rw [←hxm,←hA] at hQ
   rw [hij] at hQ
   obtain ⟨U1,U2,e1,e2,e3,e4,e5⟩:=Gc.left (hij▸ hU) hV (Nat.le_refl _) hQ
   have:U2=[]:=List.eq_nil_of_length_eq_zero (by omega)
   subst this
   rw [e4,←hT,e5]
   simp
  by_cases hlt:j<i
  ·repeat' (first
    | refine X1 ?_|refine X7 20 ?_|refine Gf 23 ?_|refine AG ?_;go_step|fail)
   repeat' (first
    | refine OW 27 ?_|(refine AU 34 ?_);(refine AP (.int _ (((i-j:Nat):Int))) (V.as (V.subI rfl rfl (by omega)) (by omega)) (by kernel_rfl) ?_;go_step)|(refine Am 62 ?_);refine An AB Tryd.call62 (CK W _ _ rs' g n c x m j _ hS AI.head (by omega) (by omega) hn K) ?_;rintro e w ⟨rfl,Q,hQ,hS2⟩;replace hS:=hS2;clear hS2;refine As ?_;go_step|refine X0 ?_|refine AG ?_;go_step|fail)
   rw [←hxm,←hA] at hQ
   obtain ⟨U1,U2,e1,e2,e3,e4,e5⟩:=Gc.left hU hV (by omega) hQ
   rw [e4] at hS
   rw [e5] at hT
   clear hQ e1 e4 e5
   go_roundg (gk-j)
   case measure=>omega
   case rel=>exact ⟨i-j,j,x+j,A++Y,U2,U1,B,by omega,rfl,rfl,by simp;omega,e3,e2,by omega,by omega,by omega,by omega,hT,hS⟩
  repeat' (first
   | refine X1 ?_|refine X7 20 ?_|refine Gf 23 ?_|refine AG ?_;go_step|fail)
  repeat' (first
   | refine OW 38 ?_|(refine AU 43 ?_);(refine AP (.int _ (((x+j:Nat):Int))) (V.as (V.subI rfl rfl (by omega)) (by omega)) (by kernel_rfl) ?_;go_step)|(refine AU 49 ?_);(refine AP (.int _ (((j-i:Nat):Int))) (V.as (V.subI rfl rfl (by omega)) (by omega)) (by kernel_rfl) ?_;go_step)|(refine Am 62 ?_);refine An AB Tryd.call62 (CK W _ _ rs' g n c x (x+j) i _ hS AI.head (by omega) (by omega) hn K) ?_;rintro e w ⟨rfl,Q,hQ,hS2⟩;replace hS:=hS2;clear hS2;refine As ?_;go_step|refine X0 ?_|refine J5 41 ?_|refine AG ?_;go_step|fail)
  rw [←hA] at hQ
  obtain ⟨V1,V2,e1,e2,e3,e4,e5⟩:=Gc.right hU hV (by omega) hQ
  rw [e4] at hS
  rw [e5] at hT
  clear hQ e1 e4 e5
  go_roundg (gk-i)
  case measure=>omega
  case rel=>exact ⟨i,j-i,x,A,V2,V1,U++B,by omega,rfl,rfl,hA,e3,e2,by omega,by omega,by omega,by omega,hT,hS⟩
abbrev M7:Value:= .func (.func 27) #[] #[]
abbrev wk(P:List Bg)(i:Nat):Int:=(AL P i).w
theorem DZ(x y:Int):FQ x y<0↔x<y:=by unfold FQ;constructor<;>intro h<;>(repeat' split at h)<;>(repeat' split)<;>omega
theorem EG(W w0:World)(rs rs':List Ac)(g n c a b:Nat)(P:List Bg)(hS:St W w0 rs)(hp:AI (BF g n c P) rs rs')(hab:a≤b)(hb:b≤n)(hn:n≤1000000):
 Calls Tryd.prog 47 #[.slice (some ⟨g,0,none⟩) n c, .int .i64 a, .int .i64 b,M7] w0 fun e w=>e= .returned (.tuple #[])∧∃Q,Bp Bg.w a b Q∧Rg a b P Q∧St W w (BF g n c Q::rs'):=by
 replace hS:=hS.pull hp
 have he:=BP
 have h1e:=GM
 have hPl:=B7 hS AI.head BP (by decide)
 go_enter Tryd.func47,Tryd.ntmps47
 repeat' (first
  | (refine AU 11 ?_);(refine AP (.int _ (((a+1:Nat):Int))) (V.as (V.addI rfl rfl (by omega)) (by omega)) (by kernel_rfl) ?_;go_step)|refine X0 ?_|refine AG ?_;go_step|fail)
 go_loopg [8] (b-a) (fun gk iv w=>∃(i:Nat) (Q:List Bg),gk+i=b+1∧a<i∧iv= .int .i64 i∧Bp Bg.w a i Q∧Rg a b P Q∧St W w (BF g n c Q::rs'))
 case atStart=>exact ⟨a+1,P,by omega,by omega,rfl,fun x y h1 h2 h3=>by rw [show x=y by omega];exact Int.le_refl _,Rg.refl a b P,hS⟩
 case round=>
  clear hS
  obtain ⟨i,Q,hi,hai,rfl,hA,hR,hS⟩:=hrel
  by_cases hlt:i<b
  ·obtain ⟨gk1,hgk1⟩:∃x,x=gk:=⟨_,rfl⟩
   subst hgk1
   have hQl:=hR.len
   have HA:=AD hA
   have HR:=AD hR
   clear hA hR
   repeat' (first
    | refine X0 ?_|refine X2 14 ?_|refine AG ?_;go_step|fail)
   repeat' (first
    | refine AG ?_;go_step|fail)
   go_loopg [9] (i-a) (fun gk jv w=>∃(j:Nat) (Z:List Bg),gk+a=j∧j≤i∧jv= .int .i64 j∧Dn i j Q Z∧(j<i→wk Q i≤wk Q j)∧Rg a b P Z∧St W w (BF g n c Z::rs'))
   case atStart=>exact ⟨i,Q,by omega,by omega,rfl,Dn.refl i Q,fun h=>by omega,HR.out,hS⟩
   case round=>
    clear hS
    obtain ⟨j,Z,hj,hji,rfl,hD,hhi,hR,hS⟩:=hrel
    by_cases hja:a<j
    ·obtain ⟨q,rfl⟩:∃q,j=q+1:=⟨j-1,by omega⟩
     obtain ⟨v,hv⟩:∃v,FQ (AL Z (q+1)).w (AL Z q).w=v:=⟨_,rfl⟩
     have hv2:=DZ (AL Z (q+1)).w (AL Z q).w
     rw [hv] at hv2
     rw [hD.eq,hD.lo q (by omega)] at hv2
     have HV:=AD hv
     have HV2:=AD hv2
     have HD:=AD hD
     have HR2:=AD hR
     have HH:=AD hhi
     clear hv hv2 hD hR hhi
     repeat' (first
      | refine AG ?_;go_step|fail)
     refine AZ [14] (fun w=>St W w (BF g n c Z::rs')) AB ?_
     replace hS:=hS.drew
     focus
      refine Ai 0 ?_
      refine Ai 1 ?_
      (refine L8 2 _ Cf AB AB AB Cv (V.gtr rfl rfl) AB (fun hB=>?_) (fun hB=>?_))
      rotate_left 1
      focus
       (try exact Ar)
       all_goals
        go_step
        refine Ai 3 ?_
        refine EP 4 ?_
        refine EP 5 ?_
        refine EP 6 ?_
        refine EP 7 ?_
        refine EP 8 ?_
        refine EP 9 ?_
        refine EP 10 ?_
        refine EP 11 ?_
        refine EP 12 ?_
        refine EP 13 ?_
        refine EP 14 ?_
        refine EP 15 ?_
        refine Fv 16 Cf AB AB AB Cv rfl AB ?_
        go_step
        refine AO AB ?_ _
      rotate_right 1
      focus
       (try exact Ar)
       all_goals
        go_step
        refine Ai 3 ?_
        refine Ai 4 ?_
        refine Ai 5 ?_
        refine Ai 6 ?_
        refine Y0 7 ?_
        refine Y1 8 [14,15,16] ?_
        refine Ai 9 ?_
        refine Ai 10 ?_
        (refine BJ 11 (.int _ (((q:Nat):Int))) Cf AB AB AB Cv (V.as (V.subI rfl rfl (by omega)) (by omega)) AB ?_)
        go_step
        refine Y0 12 ?_
        refine Y1 13 [14,15,16] ?_
        refine Cb 14 ?_
        refine Cp (f:=27) rfl rfl Tryd.call27 (Bb _ (AL Z (q+1)) (AL Z q)) ?_;rintro e w ⟨rfl,hE⟩;replace hS:=hS.ext hE;clear hE;rw [HV.out];refine ⟨_,rfl,?_⟩
        refine ⟨fun h=>absurd (by decide) h,?_⟩
        refine AK ?_
        go_step
        refine Dw 15 DG (V.lss rfl rfl) ?_;go_step
        refine Js 16 Cf AB AB AB Cv rfl AB ?_
        go_step
        refine AO AB ?_ _
     by_cases hc:v<0
     ·repeat' (first
       | refine AG ?_;go_step|fail)
      refine AZ [15,17] (fun w=>St W w (BF g n c Z::rs')) AB ?_
      replace hS:=hS.drew
      focus
       refine Ai 0 ?_
       refine Ai 1 ?_
       refine Ai 2 ?_
       refine Ai 3 ?_
       (refine BJ 4 (.int _ (((q:Nat):Int))) Cf AB AB AB Cv (V.as (V.subI rfl rfl (by omega)) (by omega)) AB ?_)
       go_step
       refine Ai 5 ?_
       refine Ai 6 ?_
       (refine BJ 7 (.int _ (((q:Nat):Int))) Cf AB AB AB Cv (V.as (V.subI rfl rfl (by omega)) (by omega)) AB ?_)
       go_step
       refine Y0 8 ?_
       refine Y1 9 [14,15,16,17] ?_
       refine Ai 10 ?_
       refine Ai 11 ?_
       refine Y0 12 ?_
       refine Y1 13 [14,15,16,17] ?_
       refine Y0 14 ?_
       refine Cb 15 ?_
       refine Y2 ?_;clear hS;intro w hS
       refine Y0 16 ?_
       refine Cb 17 ?_
       refine Y2 ?_;clear hS;intro w hS
       refine AO AB ?_ _
      repeat' (first
       | (refine AU 36 ?_);(refine AP (.int _ (((q:Nat):Int))) (V.as (V.subI rfl rfl (by omega)) (by omega)) (by kernel_rfl) ?_;go_step)|refine X0 ?_|refine AG ?_;go_step|fail)
      go_roundg (gk-1)
      case measure=>omega
      case rel=>exact ⟨q,H1 Z (q+1) q,by omega,by omega,by go_num,HD.out.step (by omega) (by omega) (by omega),fun _=>by have:=HV2.out.1 hc;exact Int.le_of_lt this,HR2.out.trans (GX _ _ _ _ _ (by omega) (by omega) (by omega) (by omega) (by rw [HR2.out.len];omega)),hS⟩
     repeat' (first
      | refine MJ 16 ?_|refine X0 ?_|refine AG ?_;go_step|fail)
     go_roundg (gk1-1)
     case measure=>omega
     case rel=>
      refine ⟨i+1,Z,by omega,by omega,by go_num,HD.out.asc HA.out (by omega) (by omega) (fun _=>?_) (fun _=>HH.out (by omega)),HR2.out,hS⟩
      have:=HV2.out
      show (AL Q (q+1-1)).w≤(AL Q i).w
      rw [Nat.add_sub_cancel]
      omega
    obtain rfl:j=a:=by omega
    repeat' (first
     | refine AG ?_;go_step|fail)
    refine AZ [14] (fun w=>St W w (BF g n c Z::rs')) AB ?_
    replace hS:=hS.drew
    focus
     refine Ai 0 ?_
     refine Ai 1 ?_
     (refine L8 2 _ Cf AB AB AB Cv (V.gtr rfl rfl) AB (fun hB=>?_) (fun hB=>?_))
     rotate_left 1
     focus
      (try exact Ar)
      all_goals
       go_step
       refine Ai 3 ?_
       refine EP 4 ?_
       refine EP 5 ?_
       refine EP 6 ?_
       refine EP 7 ?_
       refine EP 8 ?_
       refine EP 9 ?_
       refine EP 10 ?_
       refine EP 11 ?_
       refine EP 12 ?_
       refine EP 13 ?_
       refine EP 14 ?_
       refine EP 15 ?_
       refine Fv 16 Cf AB AB AB Cv rfl AB ?_
       go_step
       refine AO AB ?_ _
     rotate_right 1
     focus
      (try exact Ar)
    repeat' (first
     | refine MJ 16 ?_|refine X0 ?_|refine AG ?_;go_step|fail)
    go_roundg (gk1-1)
    case measure=>omega
    case rel=>exact ⟨i+1,Z,by omega,by omega,by go_num,hD.asc HA.out (by omega) (by omega) (fun _=>by omega) (fun _=>hhi (by omega)),hR,hS⟩
  repeat' (first
   | refine X1 ?_|refine X2 14 ?_|refine AG ?_;go_step|fail)
  go_end0
  exact ⟨rfl,Q,hA.sub (Nat.le_refl _) (by omega),hR,hS⟩
end Go.Proofs.YtkcbhcajfcfmmaaDoor
