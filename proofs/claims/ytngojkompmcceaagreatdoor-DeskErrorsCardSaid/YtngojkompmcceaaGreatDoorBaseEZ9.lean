/- What the laws DeskErrors need, part 9. -/
import Derived.Test.YtngojkompmcceaaGreatDoorBaseEZ2
import Derived.Test.YtngojkompmcceaaGreatDoorBaseEZ3
import Derived.Test.YtngojkompmcceaaGreatDoorBaseEZ6
import Derived.Test.YtngojkompmcceaaGreatDoorBaseEZ8
import Derived.Lib.FieldsP
import Derived.Lib.AtoiAll
import Derived.Lib.ItoaNum
import Derived.Lib.JoinLaws
import Derived.Lib.Strings
import Derived.Laws.Strings
import Derived.Laws.Concat
import Derived.Lib.LaidTab
import Derived.Lib.ItoaLen
namespace Go.Proofs.YtngojkompmcceaaGreatDoor
attribute [local irreducible] Region.wanted
set_option linter.unusedVariables false
set_option maxRecDepth 100000
set_option maxHeartbeats 8000000
def A4(c:List Int)(n:Nat):List Int:=((List.range n).filter fun s=>decide (0<AG c s)).map fun (s:Nat)=>(s:Int)
def Ju(c:List Int)(s:Int):Int:=if s= -1 then 0 else AG c s.toNat
theorem Ao(c:List Int)(n:Nat)(s:Int):s∈A4 c n↔0≤s∧s<n∧0<AG c s.toNat:=by
 unfold A4
 simp only [List.mem_map,List.mem_filter,List.mem_range,decide_eq_true_eq]
 constructor
 ·rintro ⟨a,⟨h1,h2⟩,rfl⟩;exact ⟨by omega,by omega,by simpa using h2⟩
 intro ⟨h1,h2,h3⟩;exact ⟨s.toNat,⟨by omega,h3⟩,by omega⟩
theorem Fh(c:List Int)(n:Nat):(A4 c n).Nodup:=by
 unfold A4
 rw [List.nodup_iff_pairwise_ne,List.pairwise_map]
 refine List.Pairwise.imp ?_ (List.Pairwise.filter _ List.nodup_range)
 intro a b h e
 exact h (by omega)
theorem MF(c:List Int)(n:Nat):Ef (Ey c n) (-1::A4 c n):=by
 refine ⟨?_,List.nodup_cons.2 ⟨fun h=>by have:=(Ao c n _).1 h;omega,Fh c n⟩⟩
 unfold Ey A4
 simp [List.map_map,Function.comp_def]
theorem PI(c:List Int)(n:Nat):∀x∈Ey c n,x.1=isum (Ju c) x.2:=by
 intro x hx
 rcases List.mem_cons.1 hx with rfl|hx
 ·simp [isum,Ju]
 obtain ⟨s,_,rfl⟩:=List.mem_map.1 hx
 simp only [isum,List.map_cons,List.map_nil,List.sum_cons,List.sum_nil,Ju]
 rw [if_neg (by omega)];simp
theorem Hc(c:Nat→Nat):∀k,k≤16→nx c k*2^(16-k)=sm (fun i=>c i*2^(15-i)) k
 | 0,_=>by simp [nx,sm]
 | k+1,h=>by
   have ih:=Hc c k (by omega)
   rw [sm,←ih,nx,Nat.add_mul,show 16-k=(16-(k+1))+1 by omega,show 16-(k+1)=15-k by omega,Nat.pow_succ]
   rw [Nat.mul_comm 2 (nx c k),Nat.mul_assoc,Nat.mul_comm 2 (2^(15-k))]
theorem Hi(a b:Nat→Nat):∀k,sm (fun i=>a i+b i) k=sm a k+sm b k
 | 0=>rfl
 | k+1=>by simp only [sm];rw [Hi a b k];omega
theorem Dc{a b:Nat→Nat}:∀k,(∀i,i<k→a i=b i)→sm a k=sm b k
 | 0,_=>rfl
 | k+1,h=>by simp only [sm];rw [Dc k fun i hi=>h i (by omega),h k (by omega)]
def ED(l:Nat):Nat:=if 1≤l then 2^(16-l) else 0
theorem NY(l:Nat)(h:l≤16):sm (fun i=>(if l=i+1 then 1 else 0)*2^(15-i)) 16=ED l:=by
 have:∀l,l<17→sm (fun i=>(if l=i+1 then 1 else 0)*2^(15-i)) 16=ED l:=by decide
 exact this l (by omega)
theorem IX(f:Int→Nat)(hf:∀s,f s≤16):∀n,sm (fun i=>(A6 f n (i+1)).length*2^(15-i)) 16=AQ (fun s:Nat=>ED (f (s:Int))) (List.range n)
 | 0=>by simp [A6,AQ];decide
 | n+1=>by
   rw [List.range_succ,DR,←IX f hf n]
   have:AQ (fun s:Nat=>ED (f (s:Int))) [n]=ED (f (n:Int)):=by simp [AQ]
   rw [this,←NY _ (hf _),←Hi]
   refine Dc 16 fun i hi=>?_
   rw [D4,←Nat.add_mul]
   by_cases h:f (n:Int)=i+1
   ·rw [if_pos h,if_pos h,List.length_append];rfl
   rw [if_neg h,if_neg h];rfl
theorem EK{α β:Type}(g:α→β)(f:β→Nat)(l:List α):AQ f (l.map g)=AQ (fun x=>f (g x)) l:=by
 unfold AQ;rw [List.map_map];rfl
theorem Lk{α β:Type}(g:α→β)(f:β→Int)(l:List α):isum f (l.map g)=isum (fun x=>f (g x)) l:=by
 unfold isum;rw [List.map_map];rfl
theorem IR{α:Type}(p:α→Bool)(f:α→Nat)(l:List α)(h:∀x∈l,p x=false→f x=0):AQ f (l.filter p)=AQ f l:=by
 induction l with
 | nil=>rfl
 | cons x l ih=>
   have ih:=ih fun y hy=>h y (by simp [hy])
   rw [List.filter_cons]
   by_cases hp:p x=true
   ·rw [if_pos hp,AU,AU,ih]
   rw [if_neg hp,AU,ih,h x (by simp) (by simpa using hp),Nat.zero_add]
theorem IK{α:Type}(p:α→Bool)(f:α→Int)(l:List α)(h:∀x∈l,p x=false→f x=0):isum f (l.filter p)=isum f l:=by
 induction l with
 | nil=>rfl
 | cons x l ih=>
   have ih:=ih fun y hy=>h y (by simp [hy])
   rw [List.filter_cons]
   by_cases hp:p x=true
   ·rw [if_pos hp,A8,A8,ih]
   rw [if_neg hp,A8,ih,h x (by simp) (by simpa using hp),Int.zero_add]
def An(c:List Int)(n:Nat)(l:Int→Nat):Int:=isum (fun s:Nat=>AG c s*(l (s:Int):Nat)) (List.range n)
structure GI(c:List Int)(n:Nat)(l:Int→Nat):Prop where
 top:∀s∈A4 c n,1≤l s∧l s≤16
 kraft:AQ (fun s=>2^(16-l s)) (A4 c n)<2^16
theorem GO(c:List Int)(n:Nat)(l:Int→Nat)(h0:∀i,i<n→0≤AG c i):isum (fun s=>Ju c s*(l s:Nat)) (A4 c n)=An c n l:=by
 unfold A4 An
 rw [Lk,CN _ (fun s:Nat=>AG c s*(l (s:Int):Nat)) _ fun s _=>?_]
 ·refine IK _ _ _ fun x hx hp=>?_
  have:=h0 x (List.mem_range.1 hx)
  have h1:¬0<AG c x:=by simpa using hp
  rw [show AG c x=0 by omega,Int.zero_mul]
 unfold Ju;rw [if_neg (by omega)];simp
theorem Ly{c:List Int}{n:Nat}{R:List Pk}(hn:n≤256)(h0:∀i,i<n→0≤AG c i)(hR:BO (Ey c n) 16 R)(f:Int→Nat)(hf:f=CO (R.take (2*(Ey c n).length-2))):
 (∀s,f s≤16)∧(∀s,s∉A4 c n→0≤s→f s=0)∧GI c n f∧(∀l,GI c n l→An c n f≤An c n l)∧(∀a b,a∈A4 c n→b∈A4 c n→AG c b.toNat<AG c a.toNat→f a≤f b):=by
 have hS:=MF c n
 have hlen:=hS.len
 have hpl:(A4 c n).length≤n:=by
  unfold A4
  have:=List.length_filter_le (fun s=>decide (0<AG c s)) (List.range n)
  simp at this⊢;exact this
 have hw0:∀s∈(-1::A4 c n),0≤Ju c s:=fun s hs=>by
  rcases List.mem_cons.1 hs with rfl|hs
  ·simp [Ju]
  have:=(Ao c n s).1 hs
  unfold Ju;rw [if_neg (by omega)];omega
 obtain ⟨_,b1,b2,b3,b4,b5⟩:=J5 hS (Ju c) (PI c n) hw0 (by simp) (by simp;omega) hR
 rw [←hlen,←hf] at b1 b2 b3 b4 b5
 have hpos:∀s∈A4 c n,1≤f s:=fun s hs=>KQ b3 (List.mem_cons_of_mem _ hs) (List.mem_cons_self (a:= -1)) (by have:=(Ao c n s).1 hs;omega)
 rw [AU] at b3
 have hone:1≤2^(16-f (-1)):=Nat.one_le_two_pow
 refine ⟨b1,fun s hs hs0=>b2 s (by simp only [List.mem_cons,not_or];exact ⟨by omega,hs⟩),⟨fun s hs=>⟨hpos s hs,b1 s⟩,by omega⟩,fun l hl=>?_,fun a b ha hb hab=>?_⟩
 ·have hb4:=b4 (fun s=>if s= -1 then 16 else l s) (fun s hs=>by
   show (if s= -1 then 16 else l s)≤16
   rcases List.mem_cons.1 hs with rfl|hs
   ·simp
   ·have:=(Ao c n s).1 hs
    rw [if_neg (by omega)];exact (hl.top s hs).2) (by
   rw [AU]
   have:=hl.kraft
   have e:AQ (fun s=>2^(16-(if s= -1 then 16 else l s))) (A4 c n)=AQ (fun s=>2^(16-l s)) (A4 c n):=BK _ _ _ fun s hs=>by
    have:=(Ao c n s).1 hs
    rw [if_neg (by omega)]
   rw [e];simp;simp at this;omega)
  rw [A8,A8] at hb4
  have z:∀x:Int,Ju c (-1)*x=0:=fun x=>by simp [Ju]
  rw [z,z,GO c n f h0] at hb4
  have e:isum (fun s=>Ju c s*((if s= -1 then 16 else l s:Nat):Int)) (A4 c n)=isum (fun s=>Ju c s*(l s:Nat)) (A4 c n):=CN _ _ _ fun s hs=>by
   have:=(Ao c n s).1 hs
   rw [if_neg (by omega)]
  rw [e,GO c n l h0] at hb4
  omega
 have h1:=(Ao c n a).1 ha
 have h2:=(Ao c n b).1 hb
 exact b5 a b (List.mem_cons_of_mem _ hb) (by unfold Ju;rw [if_neg (by omega),if_neg (by omega)];exact hab)
theorem Fc{a b:Nat→Nat}:∀k,(∀i,i<k→a i=b i)→nx a k=nx b k
 | 0,_=>rfl
 | k+1,h=>by rw [nx,nx,Fc k fun i hi=>h i (by omega),h k (by omega)]
theorem GM{a b:Nat→Nat}:∀k,(∀i,i<k→a i=b i)→DW a k=DW b k
 | 0,_=>rfl
 | k+1,h=>by rw [DW,DW,GM k fun i hi=>h i (by omega),h k (by omega),Fc k fun i hi=>h i (by omega)]
theorem L8(l:Nat)(h:l≤16):sm (fun i=>if l=i+1 then 1 else 0) 16=if 1≤l then 1 else 0:=by
 have:∀l,l<17→sm (fun i=>if l=i+1 then 1 else 0) 16=if 1≤l then 1 else 0:=by decide
 exact this l (by omega)
theorem IW(f:Int→Nat)(hf:∀s,f s≤16):∀n,sm (fun i=>(A6 f n (i+1)).length) 16=AQ (fun s:Nat=>if 1≤f (s:Int) then 1 else 0) (List.range n)
 | 0=>by simp [A6,AQ];decide
 | n+1=>by
   rw [List.range_succ,DR,←IW f hf n]
   have:AQ (fun s:Nat=>if 1≤f (s:Int) then 1 else 0) [n]=if 1≤f (n:Int) then 1 else 0:=by simp [AQ]
   rw [this,←L8 _ (hf _),←Hi]
   refine Dc 16 fun i hi=>?_
   rw [D4]
   by_cases h:f (n:Int)=i+1
   ·rw [if_pos h,if_pos h,List.length_append];rfl
   rw [if_neg h,if_neg h];rfl
theorem Dg(f:Int→Nat)(n:Nat):∀k,(BY f n k).length=sm (fun i=>(A6 f n (i+1)).length) k
 | 0=>rfl
 | k+1=>by rw [Bf,List.length_append,Dg f n k,sm]
theorem Ep(f:Int→Nat)(n k:Nat)(s:Int):s∈A6 f n k↔0≤s∧s<n∧f s=k:=by
 unfold A6
 simp only [List.mem_map,List.mem_filter,List.mem_range,decide_eq_true_eq]
 constructor
 ·rintro ⟨a,⟨h1,h2⟩,rfl⟩;exact ⟨by omega,by omega,h2⟩
 intro ⟨h1,h2,h3⟩;exact ⟨s.toNat,⟨by omega,by rw [Int.toNat_of_nonneg h1];exact h3⟩,by omega⟩
theorem Ic(f:Int→Nat)(n k:Nat):(A6 f n k).Nodup:=by
 unfold A6
 rw [List.nodup_iff_pairwise_ne,List.pairwise_map]
 refine List.Pairwise.imp ?_ (List.Pairwise.filter _ List.nodup_range)
 intro a b h e
 exact h (by omega)
theorem D5(f:Int→Nat)(n:Nat)(s:Int):∀k,s∈BY f n k↔0≤s∧s<n∧1≤f s∧f s≤k
 | 0=>by simp [BY];intro _ _ _;omega
 | k+1=>by
   rw [Bf,List.mem_append,D5 f n s k,Ep]
   constructor
   ·rintro (h|h)<;>omega
   intro h
   by_cases e:f s=k+1
   ·right;omega
   left;omega
theorem EU(f:Int→Nat)(n:Nat):∀k,(BY f n k).Nodup
 | 0=>by simp [BY]
 | k+1=>by
   rw [Bf,List.nodup_append]
   refine ⟨EU f n k,Ic f n (k+1),fun a ha b hb e=>?_⟩
   subst e
   have h1:=(D5 f n a k).1 ha
   have h2:=(Ep f n (k+1) a).1 hb
   omega
theorem Gr(f:Int→Nat)(n:Nat):∀k,∀x∈(BY f n k).zip (DW (fun i=>(A6 f n (i+1)).length) k),x.2.1=f x.1
 | 0,x,h=>by simp [BY] at h
 | k+1,x,h=>by
   rw [Bf,DW,List.zip_append (by rw [Dg,Cz])] at h
   rcases List.mem_append.1 h with h|h
   ·exact Gr f n k x h
   have h1:=(List.of_mem_zip (a:=x.1) (b:=x.2) h)
   obtain ⟨j,_,e⟩:=List.mem_map.1 h1.2
   have h2:=(Ep f n (k+1) x.1).1 h1.1
   rw [h2.2.2,←e]
def lw(L:List (Int×Nat×Nat))(s:Int):Nat:=match symW L s with
 | some x=>x.1
 | none=>0
theorem Jv{C S:List Int}(h:sm (cc C) 16=S.length):(Bt C S).map (·.1)=S:=by
 unfold Bt
 exact List.map_fst_zip (by rw [Cz,h];exact Nat.le_refl _)
theorem Np{C S:List Int}(h:sm (cc C) 16=S.length):(Bt C S).map (·.2)=DW (cc C) 16:=by
 unfold Bt
 exact List.map_snd_zip (by rw [Cz,h];exact Nat.le_refl _)
theorem G9{C S:List Int}(h:BH C S=0){x:Int×Nat×Nat}(hx:x∈Bt C S):symW (Bt C S) x.1=some x.2∧lw (Bt C S) x.1=x.2.1:=by
 have:=(Ft h).symW hx
 exact ⟨this,by unfold lw;rw [this]⟩
theorem Nx{C S:List Int}(h:BH C S=0){s:Int}(hs:s∈S):∃x∈Bt C S,x.1=s:=by
 have h2:=(C7 h).2.1
 rw [←Jv h2] at hs
 obtain ⟨x,hx,e⟩:=List.mem_map.1 hs
 exact ⟨x,hx,e⟩
theorem D0{C S:List Int}(h:BH C S=0)(s:Int):(s∈S→1≤lw (Bt C S) s∧lw (Bt C S) s≤16)∧(s∉S→lw (Bt C S) s=0):=by
 constructor
 ·intro hs
  obtain ⟨x,hx,rfl⟩:=Nx h hs
  rw [(G9 h hx).2]
  have:=(Ft h).long x hx
  omega
 intro hs
 unfold lw
 cases e:symW (Bt C S) s with
 | none=>rfl
 | some y=>exact absurd (Hr C S _ (ET e)).1 hs
theorem I5{c C S:List Int}{n:Nat}{f:Int→Nat}(hn:n≤256)(h16:∀s,f s≤16)(hz:∀s,s∉A4 c n→0≤s→f s=0)(hl:GI c n f)(hC:∀i,i<16→AG C i=((A6 f n (i+1)).length:Nat))(hS:S=BY f n 16):
 BH C S=0∧(∀s:Int,0≤s→s<n→lw (Bt C S) s=f s)∧S.length=(A4 c n).length∧(∀s,s∈S↔s∈A4 c n):=by
 have hcc:∀i,i<16→cc C i=(A6 f n (i+1)).length:=fun i hi=>by unfold cc;rw [hC i hi];simp
 have hmem:∀s,s∈S↔s∈A4 c n:=fun s=>by
  rw [hS,D5]
  constructor
  ·intro h
   by_cases hp:s∈A4 c n
   ·exact hp
   have:=hz s hp h.1;omega
  intro h
  have h1:=(Ao c n s).1 h
  have h2:=hl.top s h
  exact ⟨h1.1,h1.2.1,h2.1,h2.2⟩
 have hsm:sm (cc C) 16=S.length:=by rw [hS,Dg,Dc 16 hcc]
 have hlen:S.length=(A4 c n).length:=by
  rw [hS,Dg,IW f h16]
  unfold A4
  rw [List.length_map,←L4]
  refine BK _ _ _ fun s hs=>?_
  by_cases hp:(s:Int)∈A4 c n
  ·have h1:=(Ao c n s).1 hp
   rw [if_pos (hl.top _ hp).1,if_pos (by simpa using h1.2.2)]
  have h1:¬0<AG c s:=fun h=>hp ((Ao c n s).2 ⟨by omega,by simp at hs;omega,by simpa using h⟩)
  rw [if_neg (by rw [hz _ hp (by omega)];omega),if_neg (by simpa using h1)]
 have hpl:(A4 c n).length≤n:=by
  unfold A4
  have:=List.length_filter_le (fun s=>decide (0<AG c s)) (List.range n)
  simp at this⊢;exact this
 have hnx:nx (cc C) 16<65536:=by
  have h1:=Hc (fun i=>(A6 f n (i+1)).length) 16 (by omega)
  rw [IX f h16] at h1
  rw [Fc 16 hcc]
  have h2:AQ (fun s:Nat=>ED (f (s:Int))) (List.range n)=AQ (fun s=>2^(16-f s)) (A4 c n):=by
   unfold A4
   rw [EK,←IR (fun s=>decide (0<AG c s)) (fun s:Nat=>ED (f (s:Int))) (List.range n) fun s hs hp=>?_]
   ·refine BK _ _ _ fun s hs=>?_
    have h3:=List.mem_filter.1 hs
    have hp:(s:Int)∈A4 c n:=(Ao c n s).2 ⟨by omega,by have:=h3.1;simp at this;omega,by simpa using h3.2⟩
    unfold ED;rw [if_pos (hl.top _ hp).1]
   have hp2:(s:Int)∉A4 c n:=fun h=>by have:=((Ao c n s).1 h).2.2;simp at this hp;omega
   unfold ED;rw [hz _ hp2 (by omega)];rfl
  rw [h2] at h1
  have:=hl.kraft
  simp at h1 this
  omega
 have htab:BH C S=0:=by
  refine Nj ((CG C).2 ⟨fun k hk=>?_,by omega⟩) hsm (fun s hs=>?_) (by rw [hS];exact EU f n 16) ((Db _).2 hnx)
  ·have:=Df f n (k+1)
   rw [hC k hk];omega
  have:=(Ao c n s).1 ((hmem s).1 hs);omega
 refine ⟨htab,fun s h0 h1=>?_,hlen,hmem⟩
 by_cases hs:s∈S
 ·obtain ⟨x,hx,rfl⟩:=Nx htab hs
  rw [(G9 htab hx).2]
  refine Gr f n 16 x ?_
  unfold Bt at hx
  rw [hS,GM 16 hcc] at hx
  exact hx
 rw [(D0 htab s).2 hs,hz s (fun h=>hs ((hmem s).2 h)) h0]
theorem IS{α:Type}[DecidableEq α](f:α→Nat):∀(A B:List α),A.Nodup→(∀a∈A,a∈B)→AQ f A≤AQ f B
 | [],B,_,_=>by simp [AQ]
 | a::A,B,hn,h=>by
   obtain ⟨h1,h2⟩:=List.nodup_cons.1 hn
   have p:=List.perm_cons_erase (h a (by simp))
   rw [Ka f p,AU,AU]
   have:=IS f A (B.erase a) h2 fun x hx=>(List.mem_erase_of_ne (fun e=>h1 (by rw [←e];exact hx))).2 (h x (by simp [hx]))
   omega
theorem Jf(c:Nat→Nat):∀k,k≤16→AQ (fun x=>2^(16-x.1)) (DW c k)=nx c k*2^(16-k)
 | 0,_=>by simp [DW,AQ,nx]
 | k+1,h=>by
   rw [Hc c (k+1) h,sm,←Hc c k (by omega),←Jf c k (by omega),DW,DR,EK]
   refine congrArg (_+ ·) ?_
   have:∀m,AQ (fun _:Nat=>2^(16-(k+1))) (List.range m)=m*2^(15-k):=fun m=>by
    have:=EL (fun _:Nat=>1) (2^(15-k)) (List.range m)
    simp only [Nat.one_mul] at this
    rw [show 16-(k+1)=15-k by omega,this,D1,List.length_range]
   exact this (c k)
theorem Kp{C S:List Int}(h:BH C S=0)(c:List Int)(n:Nat)(hall:∀s∈A4 c n,s∈S):GI c n (lw (Bt C S)):=by
 obtain ⟨h1,h2,h3,h4,h5,h6⟩:=C7 h
 refine ⟨fun s hs=>(D0 h s).1 (hall s hs),?_⟩
 have a1:=IS (fun s=>2^(16-lw (Bt C S) s)) (A4 c n) S (Fh c n) hall
 have a2:AQ (fun s=>2^(16-lw (Bt C S) s)) S=AQ (fun x=>2^(16-x.2.1)) (Bt C S):=by
  have e1:=EK (fun x:Int×Nat×Nat=>x.1) (fun s=>2^(16-lw (Bt C S) s)) (Bt C S)
  rw [Jv h2] at e1
  rw [e1]
  exact BK _ _ _ fun x hx=>by rw [(G9 h hx).2]
 have a3:AQ (fun x:Int×Nat×Nat=>2^(16-x.2.1)) (Bt C S)=AQ (fun x=>2^(16-x.1)) (DW (cc C) 16):=by
  rw [←Np h2,EK]
 have a4:=Jf (cc C) 16 (Nat.le_refl _)
 have a5:=(Db _).1 h6
 simp at a4
 have:(2:Nat)^16=65536:=by decide
 omega
end Go.Proofs.YtngojkompmcceaaGreatDoor
namespace Go.Proofs.YtngojkompmcceaaGreatDoor
attribute [local irreducible] Region.wanted
open Go.RowKit
set_option linter.unusedVariables false
set_option maxRecDepth 100000
set_option maxHeartbeats 8000000
def Mm(L:List (Int×Nat×Nat))(s:Int):Option Value:=(symW L s).map (fun y=> .int .i64 (y.1:Int))
theorem Lr(L:List (Int×Nat×Nat))(s:Int)(l c:Nat):(fun j=>if j=s then some (Value.int .i64 (l:Int)) else Mm L j)=Mm (L++[(s,l,c)]):=by
 funext j
 unfold Mm
 rw [Ko]
 by_cases h:j=s
 ·rw [if_pos h,if_pos h];rfl
 rw [if_neg h,if_neg h]
theorem Lq{L:List (Int×Nat×Nat)}{s:Int}(h:symW L s=none):Mm L s=none∧lw L s=0:=by
 unfold Mm lw;rw [h];exact ⟨rfl,rfl⟩
theorem Ls{L:List (Int×Nat×Nat)}{s:Int}{y:Nat×Nat}(h:symW L s=some y):Mm L s=some (.int .i64 ((lw L s:Nat):Int)):=by
 unfold Mm lw;rw [h];rfl
theorem FN(c:List Int)(n:Nat)(l:Int→Nat):An c (n+1) l=An c n l+AG c n*(l (n:Int):Nat):=by
 unfold An;rw [List.range_succ,DP];simp [isum]
theorem Iw(c:List Int)(l:Int→Nat):An c 0 l=0:=rfl
theorem H5{c:List Int}{l:Int→Nat}{n:Nat}(h:∀i,i<n→0≤AG c i∧AG c i≤9999)(h16:∀s,l s≤16):0≤An c n l∧An c n l≤n*159984:=by
 induction n with
 | zero=>rw [Iw];omega
 | succ n ih=>
   rw [FN]
   have h1:=h n (by omega)
   have h2:=ih fun i hi=>h i (by omega)
   have h3:0≤AG c n*((l (n:Int):Nat):Int):=Int.mul_nonneg h1.1 (by omega)
   have h4:AG c n*((l (n:Int):Nat):Int)≤9999*16:=Int.mul_le_mul h1.2 (by have:=h16 (n:Int);omega) (by omega) (by omega)
   omega
def B5(c:List Int)(k:Nat)(L:List (Int×Nat×Nat)):Bool:=(List.range k).any fun i=>decide (0<AG c i)&&decide (lw L (i:Int)=0)
theorem IQ(c:List Int)(k:Nat)(L:List (Int×Nat×Nat)):B5 c (k+1) L=(B5 c k L||(decide (0<AG c k)&&decide (lw L (k:Int)=0))):=by
 unfold B5;rw [List.range_succ,List.any_append];simp
theorem IP(c:List Int)(L:List (Int×Nat×Nat)){k n:Nat}(h:k≤n)(hk:B5 c k L=true):B5 c n L=true:=by
 unfold B5 at*
 rw [List.any_eq_true] at*
 obtain ⟨i,h1,h2⟩:=hk
 exact ⟨i,by simp at*;omega,h2⟩
def B8(C S c:List Int):Int:=if BH C S≠0 then BH C S else if bE c≠0 then bE c else if B5 c c.length (Bt C S) then 5 else 0
def Do(C S c:List Int):Int:=if B8 C S c=0 then An c c.length (lw (Bt C S)) else 0
theorem LZ(w0:World)(C S:List Int)(ad:Option Addr)(n cp:Nat)(hC:A2 C 16)(hv:Sl w0 1 (.slice ad n cp) n (S.map (Value.int .i64)))(hn:n≤9223372036854775807)(c:List Int)(ad2:Option Addr)(n2 cp2:Nat)(hv2:Sl w0 1 (.slice ad2 n2 cp2) n2 (c.map (Value.int .i64)))(hn2:n2≤9223372036854775807):
 Calls Tryz.prog 54 #[tv C (.slice ad n cp), .slice ad2 n2 cp2] w0 fun e w=>e= .returned (.tuple #[.int .i64 (Do C S c), .int .i64 (B8 C S c)])∧AP w0 w:=by
 have hS:=St.start w0
 have hcl:c.length=n2:=by have:=hv2.1;simpa using this
 have HW:=AD (fun (w:World)(hE:AP w0 w)=>Ku w C S ad n cp hC (hv.ext hE) hn)
 have HCK:=AD (fun (w:World)(hE:AP w0 w)=>Dw w c ad2 n2 cp2 (hv2.ext hE) hn2)
 obtain ⟨E,hE⟩:∃E,BH C S=E:=⟨_,rfl⟩
 obtain ⟨B,hB⟩:∃B,bE c=B:=⟨_,rfl⟩
 by_cases h0:E=0
 ·subst h0
  by_cases h1:B=0
  ·subst h1
   have HE:=AD hE
   have HB:=AD hB
   have HL:=AD (Hq C S (C7 hE).2.1)
   obtain ⟨L,hL⟩:∃L,Bt C S=L:=⟨_,rfl⟩
   have H16:=AD (fun s:Int=>show lw L s≤16 by rw [←hL];by_cases h:s∈S;exact ((D0 hE s).1 h).2;rw [(D0 hE s).2 h];omega)
   have HPOS:=AD (fun (s:Int)(y:Nat×Nat)(h:symW L s=some y)=>show 1≤lw L s by
    rw [←hL] at h⊢
    have h2:=(Ft hE).long _ (ET h)
    have h3:=(G9 hE (ET h)).2
    dsimp only at h2 h3
    omega)
   have hl256:=(C7 hE).2.2.1
   have hLl:L.length=S.length:=by rw [←hL];exact HL.out
   have hL256:L.length≤256:=by omega
   have hc2:n2≤256∧∀i,i<n2→0≤AG c i∧AG c i≤9999:=by
    unfold bE at hB
    rw [hcl] at hB
    by_cases h:256<n2
    ·rw [if_pos h] at hB;cases hB
    rw [if_neg h] at hB
    by_cases h2:BJ c 0 9999=true
    ·exact ⟨by omega,fun i hi=>(BZ c 0 9999).1 h2 i (by omega)⟩
    rw [if_neg h2] at hB;cases hB
   obtain ⟨hn3,hc⟩:=hc2
   have HC:=AD hc
   have HRES:Hid (B8 C S c=if B5 c n2 L then 5 else 0):=AD (by unfold B8;rw [HE.out,HB.out,hcl,hL];rfl)
   have HRES2:Hid (∀b,B5 c n2 L=b→Do C S c=if b then 0 else An c n2 (lw L)):=AD (fun b hb=>by
    unfold Do;rw [HRES.out,hb,hcl,hL];cases b<;>rfl)
   have HWL:Hid (Dv w0 C S=Dv w0 C S):=AD rfl
   have HLL:=AD hL
   have HLN:=AD hLl
   clear hE hB hL hl256 hLl hc
   go_enter Tryz.func54,Tryz.ntmps54
   repeat' (first
    | (refine AM 16 ?_);refine Ay (f:=77) Tryz.call77 AA ?_;refine ⟨_,(HW.out _ hS.1),?_⟩;rintro e w ⟨a2,n3,c3,hn4,rfl,hS2⟩;rw [if_pos HE.out] at hn4 hS2;rw [HE.out,HLL.out] at*;rw [←HLN.out] at hn4;subst hn4;replace hS:=hS.call1 hS2;clear hS2;refine A9 ?_;go_step|refine X0 ?_|refine X8 ?_|refine Pw ?_|refine LM 2 ?_;clear hS;intro g2 w hS|refine Mj ?_|refine AF ?_;go_step|fail)
   repeat' (first
    | (refine AM 22 ?_);refine Ay (f:=72) Tryz.call72 AA ?_;refine ⟨_,(HCK.out _ hS.1),?_⟩;rintro e w ⟨rfl,hE2⟩;rw [HB.out];replace hS:=hS.ext hE2;clear hE2;refine A9 ?_;go_step|refine X0 ?_|refine J1 ?_|(refine AM 26 ?_);(refine Aq ?_;apply DA (o:=⟨some 26,_,_,_,_,_⟩) ik hS 115 rfl;clear hS;intro g26 w hS;refine AB ?_;go_step)|refine AF ?_;go_step|fail)
   obtain ⟨m,hm⟩:∃m,L.length=m:=⟨_,rfl⟩
   have HM:=AD hm
   rw [hm] at hS hL256
   try rw [hm]
   clear hm
   repeat' (first
    | refine X1 ?_|(with_reducible refine Al _ (.call ⟨.builtin .len,_,_⟩) ?_);(refine AY AA (V.len Tryz.underlying116 rfl) ?_;go_step)|refine AF ?_;go_step|fail)
   go_loopg [29] m (fun gk kv w=>∃(i:Nat),gk+i=m∧kv= .int .i64 i∧St w0 w [own 120 3 a2 m c3 ((JR L).map (Value.int .i64)),mp ik g26 (Mm (L.take i)),prt g2 [.ints C, .val (.slice ad n cp)]])
   case atStart=>exact ⟨0,rfl,rfl,(by rw [show Mm (L.take 0)=fun _=>none from rfl];exact hS.sub Ae)⟩
   case round=>
    clear hS
    obtain ⟨i,hi,rfl,hS⟩:=hrel
    by_cases hlt:i<m
    ·obtain ⟨b2,rfl⟩:=BS hS AS (by omega)
     obtain ⟨⟨s,l,k⟩,hx⟩:∃x,L[i]? =some x:=⟨_,List.getElem?_eq_getElem (by rw [HM.out];exact hlt)⟩
     have hseg:=Jw L i _ hx
     dsimp only at hseg
     have ht:L.take (i+1)=L.take i++[(s,l,k)]:=by rw [List.take_add_one,hx];rfl
     have H1:=AD (Lr (L.take i) s l k)
     rw [←ht] at H1
     clear hx ht
     repeat' (first
      | refine X1 ?_|refine X3 ?_|(refine AM 31 ?_);(refine AY AA (V.indexSl Tryz.underlying116 OR rfl rfl BW (by omega) rfl Br) ?_;go_step)|(with_reducible refine Al _ (.fieldAddr 120 _ 0) ?_);(refine AY AA (V.fieldAddr NJ rfl Br) ?_;go_step)|(with_reducible refine Al _ (.fieldAddr 120 _ 1) ?_);(refine AY AA (V.fieldAddr NK rfl Br) ?_;go_step)|refine X5 ?_|(with_reducible refine Al _ (.load 120 _) ?_);(refine Aq ?_;apply Fw hS 120 _ rfl _ _ rfl 3 (Ad rfl) _ _ _ _ _;(case hp=>exact AS);(case hi=>omega);(case hl'=>with_reducible assumption);refine AB ?_;go_step)|(refine AM 10 ?_);(refine Aq ?_;apply CU (o:=⟨some 10,_,_,_,_,_⟩) hS 120 rfl (.agg #[.int .i64 0, .int .i64 0, .int .i64 0]) [.int .i64 0, .int .i64 0, .int .i64 0] (fun w=>Tryz.zeroValue120 w) rfl;clear hS;intro g10 w hS;refine AB ?_;go_step)|(with_reducible refine Al _ (.store 120 _ _) ?_);(refine Aq ?_;apply CH hS 120 _ _ rfl _ rfl 3 (Ad rfl) _ _;(case hp=>exact AS);(case hy=>rfl);(case hn=>rfl);(case hn'=>rfl);(case hv=>rfl);(case hd=>exact rfl);clear hS;intro w hS)|refine PZ ?_|refine Ps ?_;clear hS;intro w hS|refine AF ?_;go_step|fail)
     go_roundg (gk-1)
     case measure=>omega
     case rel=>
      refine ⟨i+1,by omega,by go_num,?_⟩
      rw [←H1.out]
      exact hS.sub Ae
    obtain rfl:i=m:=by omega
    rw [show L.take i=L by rw [←HM.out];exact List.take_length] at hS
    repeat' (first
     | refine X0 ?_|refine X3 ?_|refine PW ?_|refine AF ?_;go_step|fail)
    clear hlt hi
    go_loopg [11,41] n2 (fun gk av kv w=>∃(i:Nat) (A:Int),gk+i=n2∧kv= .int .i64 i∧av= .int .i64 A∧Hid (A=An c i (lw L))∧Hid (B5 c i L=false)∧St w0 w [mp ik g26 (Mm L),prt g2 [.ints C, .val (.slice ad n cp)]])
    case atStart=>exact ⟨0,0,rfl,rfl,rfl,AD rfl,AD rfl,hS.sub Ae⟩
    case round=>
     clear hS
     obtain ⟨i,A,hi,rfl,rfl,HA,HN,hS⟩:=hrel
     by_cases hlt:i<n2
     ·have hci:=HC.out i hlt
      have hbd:=H5 (l:=lw L) (n:=i) (fun j hj=>HC.out j (by omega)) H16.out
      rw [←HA.out] at hbd
      obtain ⟨x,hx⟩:∃x,AG c i=x:=⟨_,rfl⟩
      have HX:=AD hx
      clear hv
      rw [hx] at hci
      have HS1:=AD (FN c i (lw L))
      have HN1:=AD (IQ c i L)
      rw [hx] at HS1 HN1
      rcases hw:symW L (i:Int) with _|y
      ·obtain ⟨hf,hl0⟩:=Lq hw
       have HL0:=AD hl0
       clear hl0 hw
       by_cases hx0:0<x
       ·have HNB:=AD (IP c L (show i+1≤n2 by omega) (by rw [HN1.out,HL0.out];simp [hx0]))
        clear hx
        repeat' (first
         | refine X0 ?_|refine X3 ?_|refine Oh 44 ?_;intro b44 o44 hc44;go_step|refine Mh ?_|refine AF ?_;go_step|fail)
        rw [HX.out]
        repeat' (first
         | refine X0 ?_|refine X6 ?_|(refine AM 47 ?_);(refine Bz _ (V.gtr rfl rfl) AA (fun hB=>?_) (fun hB=>?_)<;>(try exact Ak)<;>go_step)|refine Mz ?_|refine P2 51 ?_|refine AF ?_;go_step|fail)
        have HR1:=HRES.out
        have HR2:=HRES2.out _ HNB.out
        rw [HNB.out] at HR1
        refine AI (xs:=[_,_]) rfl (.cons (AC.tmp rfl) (.cons (AC.tmp rfl) (.nil))) (by simp) rfl ?_
        refine ⟨?_,hS.1⟩
        rw [HR1,HR2]
        rfl
       obtain rfl:x=0:=by omega
       clear hx
       repeat' (first
        | refine X0 ?_|refine X3 ?_|refine Oh 44 ?_;intro b44 o44 hc44;go_step|refine Mh ?_|refine AF ?_;go_step|fail)
       rw [HX.out]
       repeat' (first
        | go_big_skip|((first|(with_reducible refine F2 ?_)|(with_reducible refine LA ?_));(first|go_big_want|go_step);go_step)|((with_reducible refine Al _ (.pick _ _ _) ?_);(refine AZ rfl AA ?_;go_step))|((refine AM 47 ?_);(refine Bz _ (V.gtr rfl rfl) AA (fun hB=>?_) (fun hB=>?_)<;>(try exact Ak)<;>go_step))|((with_reducible refine Al _ (.binOp .mul _ _ _ _) ?_);(refine AY AA (V.mulI rfl rfl (by omega)) ?_;go_step))|((with_reducible refine Al _ (.binOp .add _ _ _ _) ?_);(refine AY AA (V.addI rfl rfl (by omega)) ?_;go_step))|((refine AM 58 ?_);(refine Aq ?_;apply D9 (enc:=ik) hS 115 _ _ rfl _ rfl _ rfl Tryz.underlying115 (BB Tryz.underlying3) (.int .i64 0) (fun w=>Tryz.zeroValue3 w) _;(case hp=>exact AS);(case hf=>with_reducible assumption);refine AB ?_;go_step))|(refine AF ?_;go_step)|fail)
       go_roundg (gk-1)
       case measure=>omega
       case rel=>
        refine ⟨i+1,_,by omega,by go_num,rfl,?_,?_,hS.sub Ae⟩
        ·exact AD (by rw [HS1.out,←HA.out];omega)
        exact AD (by rw [HN1.out,HN.out];simp)
      have hf:=Ls hw
      have h16:=H16.out (i:Int)
      have hpos:=HPOS.out _ _ hw
      obtain ⟨z,hz⟩:∃z,lw L (i:Int)=z:=⟨_,rfl⟩
      rw [hz] at hf h16 hpos HS1 HN1
      clear hz hw hx
      have hmul:0≤x*z∧x*z≤9999*16:=⟨Int.mul_nonneg hci.1 (by omega),Int.mul_le_mul hci.2 (by omega) (by omega) (by omega)⟩
      repeat' (first
       | refine X0 ?_|refine X3 ?_|refine Oh 44 ?_;intro b44 o44 hc44;go_step|refine Mh ?_|refine AF ?_;go_step|fail)
      rw [HX.out]
      repeat' (first
       | go_big_skip|((first|(with_reducible refine F2 ?_)|(with_reducible refine LA ?_));(first|go_big_want|go_step);go_step)|((with_reducible refine Al _ (.pick _ _ _) ?_);first|(refine Ag rfl AA ?_;go_step)|(refine AZ rfl AA ?_;go_step))|((refine AM 47 ?_);(refine Bz _ (V.gtr rfl rfl) AA (fun hB=>?_) (fun hB=>?_)<;>(try exact Ak)<;>go_step))|((with_reducible refine Al _ (.binOp .eql 3 _ _ _) ?_);(refine AY AA (V.eql rfl rfl) ?_;go_step))|((with_reducible refine Al _ (.binOp .mul _ _ _ _) ?_);(refine AY AA (V.mulI rfl rfl (by omega)) ?_;go_step))|((with_reducible refine Al _ (.binOp .add _ _ _ _) ?_);(refine AY AA (V.addI rfl rfl (by omega)) ?_;go_step))|((refine AM 51 ?_);(refine Aq ?_;apply C9 (enc:=ik) hS 115 _ _ rfl _ rfl _ rfl Tryz.underlying115 (BB Tryz.underlying3) (.int .i64 0) (fun w=>Tryz.zeroValue3 w) _;(case hp=>exact AS);(case hf=>with_reducible assumption);refine AB ?_;go_step))|((refine AM 58 ?_);(refine Aq ?_;apply C9 (enc:=ik) hS 115 _ _ rfl _ rfl _ rfl Tryz.underlying115 (BB Tryz.underlying3) (.int .i64 0) (fun w=>Tryz.zeroValue3 w) _;(case hp=>exact AS);(case hf=>with_reducible assumption);refine AB ?_;go_step))|(refine AF ?_;go_step)|fail)
      all_goals
       go_roundg (gk-1)
       case measure=>omega
       case rel=>
        refine ⟨i+1,_,by omega,by go_num,rfl,?_,?_,hS.sub Ae⟩
        ·exact AD (by rw [HS1.out,←HA.out])
        exact AD (by rw [HN1.out,HN.out];simp;omega)
     obtain rfl:i=n2:=by omega
     repeat' (first
      | refine X0 ?_|refine X3 ?_|refine AF ?_;go_step|fail)
     have HR1:=HRES.out
     have HR2:=HRES2.out _ HN.out
     rw [HN.out] at HR1
     refine AI (xs:=[_,_]) rfl (.cons (AC.tmp rfl) (.cons (AC.tmp rfl) (.nil))) (by simp) rfl ?_
     refine ⟨?_,hS.1⟩
     rw [HR1,HR2,HA.out]
     rfl
  have HE:=AD hE
  have HB:=AD hB
  have HH:=AD (show B8 C S c=B∧Do C S c=0 by
   have e:B8 C S c=B:=by unfold B8;rw [if_neg (by rw [hE];omega),if_pos (by rw [hB];exact h1),hB]
   exact ⟨e,by unfold Do;rw [e,if_neg h1]⟩)
  clear hE hB
  go_enter Tryz.func54,Tryz.ntmps54
  repeat' (first
   | (refine AM 16 ?_);refine Ay (f:=77) Tryz.call77 AA ?_;refine ⟨_,(HW.out _ hS.1),?_⟩;rintro e w ⟨a2,n3,c3,hn4,rfl,hS2⟩;rw [HE.out];replace hS:=St.of_ext (hS.call1 hS2).1;clear hS2 hn4;refine A9 ?_;go_step|refine X0 ?_|refine X8 ?_|refine Pw ?_|refine LM 2 ?_;clear hS;intro g2 w hS|refine Mj ?_|refine AF ?_;go_step|fail)
  repeat' (first
   | (refine AM 22 ?_);refine Ay (f:=72) Tryz.call72 AA ?_;refine ⟨_,(HCK.out _ hS.1),?_⟩;rintro e w ⟨rfl,hE2⟩;rw [HB.out];replace hS:=hS.ext hE2;clear hE2;refine A9 ?_;go_step|refine X0 ?_|refine J1 ?_|refine AF ?_;go_step|fail)
  refine AI (xs:=[_,_]) rfl (.cons (AC.tmp rfl) (.cons (AC.tmp rfl) (.nil))) (by simp) rfl ?_
  refine ⟨?_,hS.1⟩
  rw [HH.out.1,HH.out.2]
  rfl
 have HE:=AD hE
 have HH:=AD (show B8 C S c=E∧Do C S c=0 by
  have e:B8 C S c=E:=by unfold B8;rw [if_pos (by rw [hE];exact h0),hE]
  exact ⟨e,by unfold Do;rw [e,if_neg h0]⟩)
 clear hE hB
 go_enter Tryz.func54,Tryz.ntmps54
 repeat' (first
  | (refine AM 16 ?_);refine Ay (f:=77) Tryz.call77 AA ?_;refine ⟨_,(HW.out _ hS.1),?_⟩;rintro e w ⟨a2,n3,c3,hn4,rfl,hS2⟩;rw [HE.out];replace hS:=St.of_ext (hS.call1 hS2).1;clear hS2 hn4;refine A9 ?_;go_step|refine X0 ?_|refine X8 ?_|refine Pw ?_|refine J1 ?_|refine LM 2 ?_;clear hS;intro g2 w hS|refine Mj ?_|refine AF ?_;go_step|fail)
 refine AI (xs:=[_,_]) rfl (.cons (AC.tmp rfl) (.cons (AC.tmp rfl) (.nil))) (by simp) rfl ?_
 refine ⟨?_,hS.1⟩
 rw [HH.out.1,HH.out.2]
 rfl
structure Mk(c:List Int)(n:Nat)(C S:List Int):Prop where
 len:A2 C 16
 ok:BH C S=0
 mem:∀s,s∈S↔s∈A4 c n
 slen:S.length=(A4 c n).length
 best:∀l,GI c n l→An c n (lw (Bt C S))≤An c n l
 order:∀a b,a∈A4 c n→b∈A4 c n→AG c b.toNat<AG c a.toNat→lw (Bt C S) a≤lw (Bt C S) b
 lens:GI c n (lw (Bt C S))
theorem H6(c:List Int)(n:Nat)(f g:Int→Nat)(h:∀s:Int,0≤s→s<n→f s=g s):An c n f=An c n g:=by
 unfold An
 refine CN _ _ _ fun s hs=>?_
 rw [h s (by omega) (by have:=List.mem_range.1 hs;omega)]
theorem Oz{c:List Int}(h:bE c=0):c.length≤256∧∀i,i<c.length→0≤AG c i∧AG c i≤9999:=by
 unfold bE at h
 by_cases h1:256<c.length
 ·rw [if_pos h1] at h;cases h
 rw [if_neg h1] at h
 by_cases h2:BJ c 0 9999=true
 ·exact ⟨by omega,(BZ c 0 9999).1 h2⟩
 rw [if_neg h2] at h;cases h
theorem KV(w0:World)(c:List Int)(ad:Option Addr)(n cap:Nat)(hv:Sl w0 1 (.slice ad n cap) n (c.map (Value.int .i64)))(hn:n≤9223372036854775807)(hok:bE c=0):
 Calls Tryz.prog 53 #[.slice ad n cap] w0 fun e w=>∃(C S:List Int) (ao:Option Addr) (co:Nat),Mk c n C S∧e= .returned (.tuple #[tv C (.slice ao S.length co), .int .i64 0])∧St w0 w [own 3 1 ao S.length co (S.map (Value.int .i64))]:=by
 refine (Lz w0 c ad n cap hv hn hok).mono ?_
 rintro e w ⟨f,R,C,S,ao,co,hR,hf,hC,hCi,hSy,rfl,hS⟩
 have hcl:c.length=n:=by have:=hv.1;simpa using this
 obtain ⟨b1,b2⟩:=Oz hok
 rw [hcl] at b1 b2
 obtain ⟨m1,m2,m3,m4,m5⟩:=Ly b1 (fun i hi=>(b2 i hi).1) hR f hf
 obtain ⟨t1,t2,t3,t4⟩:=I5 b1 m1 m2 m3 hCi hSy
 have hin:∀s∈A4 c n,0≤s∧s<n:=fun s hs=>by have:=(Ao c n s).1 hs;exact ⟨this.1,this.2.1⟩
 have hcost:An c n (lw (Bt C S))=An c n f:=H6 _ _ _ _ t2
 refine ⟨C,S,ao,co,⟨hC,t1,t4,t3,fun l hl=>by rw [hcost];exact m4 l hl,fun a b ha hb h=>?_,Kp t1 c n fun s hs=>(t4 s).2 hs⟩,rfl,hS⟩
 rw [t2 a (hin a ha).1 (hin a ha).2,t2 b (hin b hb).1 (hin b hb).2]
 exact m5 a b ha hb h
theorem KZ{C S c:List Int}{n:Nat}(h:BH C S=0)(hall:∀s∈A4 c n,s∈S):B5 c n (Bt C S)=false:=by
 unfold B5
 rw [List.any_eq_false]
 intro i hi h2
 simp at h2
 have h3:(i:Int)∈A4 c n:=(Ao c n i).2 ⟨by omega,by have:=List.mem_range.1 hi;omega,by simpa using h2.1⟩
 have:=((D0 h (i:Int)).1 (hall _ h3)).1
 omega
theorem KG{c C S:List Int}{n:Nat}(hm:Mk c n C S)(hcl:c.length=n)(hok:bE c=0):B8 C S c=0∧Do C S c=An c n (lw (Bt C S)):=by
 have e:B8 C S c=0:=by
  unfold B8
  rw [if_neg (by rw [hm.ok];decide),if_neg (by rw [hok];decide),hcl,KZ hm.ok fun s hs=>(hm.mem s).2 hs]
  rfl
 exact ⟨e,by unfold Do;rw [if_pos e,hcl]⟩
theorem KC{c C S:List Int}(h:bE c≠0)(hc:BH C S=0):B8 C S c=bE c:=by
 unfold B8;rw [if_neg (by rw [hc];decide),if_pos h]
theorem Is(w:World):(Instr.build 85 #[]).run Tryz.prog w= .ok (tv (List.replicate 16 0) (.slice none 0 0)) w:=by kernel_rfl
theorem L2(w0:World)(c:List Int)(ad:Option Addr)(n cap:Nat)(hv:Sl w0 1 (.slice ad n cap) n (c.map (Value.int .i64)))(hn:n≤9223372036854775807)(hbad:bE c≠0):
 Calls Tryz.prog 53 #[.slice ad n cap] w0 fun e w=>e= .returned (.tuple #[tv (List.replicate 16 0) (.slice none 0 0), .int .i64 (bE c)])∧AP w0 w:=by
 have hS:=St.start w0
 have HCK:=AD (fun (w:World)(hE:AP w0 w)=>Dw w c ad n cap (hv.ext hE) hn)
 obtain ⟨B,hB⟩:∃B,bE c=B:=⟨_,rfl⟩
 rw [hB] at HCK hbad⊢
 clear hB
 go_enter Tryz.func53,Tryz.ntmps53
 repeat' (first
  | (refine Av 72 ?_);refine Aw AA Tryz.call72 (HCK.out _ hS.1) (Dj hS ?_);clear hS;intro w hS;go_step|refine X0 ?_|refine OG 22 ?_|refine Ow 2 ?_;clear hS;intro g2 w hS|refine AF ?_;go_step|fail)
 repeat' (first
  | (refine AM 23 ?_);refine AY AA (V.build (vs:=[]) rfl Is) ?_;go_step|refine X0 ?_|refine PT ?_;clear hS;intro w hS|refine AF ?_;go_step|fail)
 refine AI (xs:=[_,_]) rfl (.cons (AC.prt hS rfl (Ad (n:=17) rfl) AS (by (repeat (first|exact Es.nil|(apply Es.ints;(case hn=>exact F1);(case h=>omega);(case hm=>rfl))|apply Es.val)))) (.cons (AC.tmp rfl) (.nil))) (by simp) rfl ?_
 exact ⟨rfl,hS.1⟩
theorem MW:A2 (List.replicate 16 (0:Int)) 16:=List.length_replicate
theorem MX:BH (List.replicate 16 0) []=0:=by decide
theorem KU(w0:World)(c:List Int)(ad:Option Addr)(n cap:Nat)(hv:Sl w0 1 (.slice ad n cap) n (c.map (Value.int .i64)))(hn:n≤9223372036854775807):
 Calls Tryz.prog 53 #[.slice ad n cap] w0 fun e w=>∃(C S:List Int) (ao:Option Addr) (m co:Nat),A2 C 16∧S.length=m∧m≤256∧BH C S=0∧(bE c=0→Mk c n C S)∧e= .returned (.tuple #[tv C (.slice ao m co), .int .i64 (bE c)])∧St w0 w [own 3 1 ao m co (S.map (Value.int .i64))]:=by
 by_cases hb:bE c=0
 ·refine (KV w0 c ad n cap hv hn hb).mono ?_
  rintro e w ⟨C,S,ao,co,hM,rfl,hS⟩
  exact ⟨C,S,ao,S.length,co,hM.len,rfl,(C7 hM.ok).2.2.1,hM.ok,fun _=>hM,by rw [hb],hS⟩
 refine (L2 w0 c ad n cap hv hn hb).mono ?_
 rintro e w ⟨rfl,hE⟩
 exact ⟨_,[],none,0,0,MW,rfl,by omega,MX,fun h=>absurd h hb,rfl,(St.of_ext hE).nil _ _⟩
theorem KE{c C S:List Int}{n:Nat}(h:bE c=0→Mk c n C S)(hC:BH C S=0)(hcl:c.length=n):B8 C S c=bE c∧(bE c=0→Do C S c=An c n (lw (Bt C S))):=by
 by_cases hb:bE c=0
 ·have:=KG (h hb) hcl hb
  exact ⟨by rw [this.1,hb],fun _=>this.2⟩
 exact ⟨KC hb hC,fun h=>absurd h hb⟩
structure Dk where
 b:List Int
 q:List Int
def Bd(m:Int)(l:List Int):Prop:=∀i,i<l.length→ -m≤AG l i∧AG l i≤m
structure Dk.ok(D:Dk):Prop where
 b:A2 D.b 64
 q:A2 D.q 64
 r:Bd 40000 D.b
def Ba(n:Int):ByteArray:=⟨(Lib.itoa n).toArray⟩
def Bo(l:List Int):ByteArray:=if l.length=0 then ⟨#[45]⟩ else ⟨(Lib.join ((l.map Ba).map (·.data.toList)) [32]).toArray⟩
def Jr(s:ByteArray):ByteArray:=⟨(Lib.trimPrefix s.data.toList [45]).toArray⟩
def EN(s:ByteArray):Option Int:=match Lib.atoiAll s.data.toList with
 | .ok n=>if Ba n=s∧(Jr s).size≤9 then some n else none
 | _=>none
def C1(l:List Int):List Int:=l.map fun n=>min (max n (-40000)) 40000
def nl:ByteArray:=⟨#[]⟩
def OV:ByteArray:=⟨#[111,107]⟩
def Io(D:Dk)(R:List Int)(E:Int):(ByteArray×Int)×Dk:=if E≠0 then ((nl,E),D) else ((OV,0),⟨C1 R,D.q⟩)
def En(D:Dk)(n:List Int):(ByteArray×Int)×Dk:=
 if AG n 0<0∨63<AG n 0 then ((nl,5),D) else if AG n 1< -40000∨40000<AG n 1 then ((nl,1),D) else ((OV,0),⟨D.b.set (AG n 0).toNat (AG n 1),D.q⟩)
def BP(D:Dk)(n:List Int):(ByteArray×Int)×Dk:=if Kc (List.replicate 64 (AG n 0)) then ((OV,0),⟨D.b,List.replicate 64 (AG n 0)⟩) else ((nl,1),D)
def C6(n:Int):ByteArray×Int:=if -4096<n∧n<4096 then (Bo [(sz n:Int),sv n],0) else (Bo [0,0],1)
def BA(x:Int):Bool:=decide (0≤x)&&decide (x≤255)
def Ct(f1 f2 f3:Int→Int→Int→Int)(x y z:Int):ByteArray×Int:=if BA x&&BA y&&BA z then (Bo [f1 x y z,f2 x y z,f3 x y z],0) else (Bo [0,0,0],1)
def Dl(bst:List Int→Int)(n:List Int):ByteArray×Int:=if bE n≠0 then (nl,bE n) else (Bo [bst n],0)
inductive F6
 | kSet|kCoarse|kShow|kTokens|kWave|kBack|kDown|kUp|kSize|kTint|kPlain|kBest
def F6.many:F6→Int
 | .kSet=>2| .kCoarse=>1| .kShow=>0| .kTokens=>0| .kWave=>0| .kBack=>0| .kDown=>0| .kUp=>0| .kSize=>1| .kTint=>3| .kPlain=>3| .kBest=> -1
def DO(bst:List Int→Int)(c:F6)(D:Dk)(n:List Int):(ByteArray×Int)×Dk:=match c with
 | .kSet=>En D n
 | .kCoarse=>BP D n
 | .kShow=>((Bo (D.b.take 8),0),D)
 | .kTokens=>((Bo ((D7 0 D.b).map (·.1)),EW 0 D.b),D)
 | .kWave=>Io D (Pq D.b) (MV D.b)
 | .kBack=>Io D (Jt D.b) (MV D.b)
 | .kDown=>Io D (By D.b D.q) (EG D.b D.q)
 | .kUp=>Io D (Ii D.b D.q) (Nl D.b D.q)
 | .kSize=>(C6 (AG n 0),D)
 | .kTint=>(Ct OA N8 N9 (AG n 0) (AG n 1) (AG n 2),D)
 | .kPlain=>(Ct FU FT FS (AG n 0) (AG n 1) (AG n 2),D)
 | .kBest=>(Dl bst n,D)
def FL(s:ByteArray):Option F6:=
 if s=⟨#[98,101,115,116]⟩ then some .kBest
 else if s=⟨#[112,108,97,105,110]⟩ then some .kPlain
 else if s=⟨#[116,105,110,116]⟩ then some .kTint
 else if s=⟨#[115,105,122,101]⟩ then some .kSize
 else if s=⟨#[117,112]⟩ then some .kUp
 else if s=⟨#[100,111,119,110]⟩ then some .kDown
 else if s=⟨#[98,97,99,107]⟩ then some .kBack
 else if s=⟨#[119,97,118,101]⟩ then some .kWave
 else if s=⟨#[116,111,107,101,110,115]⟩ then some .kTokens
 else if s=⟨#[115,104,111,119]⟩ then some .kShow
 else if s=⟨#[99,111,97,114,115,101]⟩ then some .kCoarse
 else if s=⟨#[115,101,116]⟩ then some .kSet
 else none
def CQ:List ByteArray→Option (List Int)
 | []=>some []
 | s::r=>match EN s with
   | none=>none
   | some n=>(CQ r).map (n:: ·)
def DQ(m:Int)(k:Nat):Bool:=decide ((k:Int)=m)||(decide (m<0)&&decide (1≤k))
def Ax(s:ByteArray):List ByteArray:=Lib.goFieldsP (fun c=>decide (c=32)) s
def As(bst:List Int→Int)(D:Dk)(s:ByteArray):(ByteArray×Int)×Dk:=match Ax s with
 | []=>((nl,4),D)
 | w::ws=>match FL w with
   | none=>((nl,4),D)
   | some c=>if DQ c.many ws.length then (match CQ ws with
     | none=>((nl,4),D)
     | some n=>DO bst c D n) else ((nl,4),D)
def IB(e:Int):ByteArray:=⟨#[101,114,114,111,114,32]⟩++Ba e
def F7(r:(ByteArray×Int)×Dk):ByteArray:=if r.1.2≠0 then IB r.1.2 else r.1.1
def CS(bst:List Int→Int):Dk→List ByteArray→List ByteArray
 | _,[]=>[]
 | D,s::r=>F7 (As bst D s)::CS bst (As bst D s).2 r
def Ca(bst:List Int→Int):Dk→List ByteArray→Dk
 | D,[]=>D
 | D,s::r=>Ca bst (As bst D s).2 r
def CL:Dk:=⟨List.replicate 64 0,List.replicate 64 1⟩
theorem IY(bst:List Int→Int):∀(a b:List ByteArray)(D:Dk),CS bst D (a++b)=CS bst D a++CS bst (Ca bst D a) b
 | [],_,_=>rfl
 | s::a,b,D=>by rw [List.cons_append,CS,CS,Ca,IY bst a b,List.cons_append]
theorem GQ(bst:List Int→Int):∀(a b:List ByteArray)(D:Dk),Ca bst D (a++b)=Ca bst (Ca bst D a) b
 | [],_,_=>rfl
 | s::a,b,D=>by rw [List.cons_append,Ca,Ca,GQ bst a b]
theorem IZ(bst:List Int→Int):∀(a:List ByteArray)(D:Dk),(CS bst D a).length=a.length
 | [],_=>rfl
 | s::a,D=>by rw [CS,List.length_cons,List.length_cons,IZ bst a]
theorem La:CL.ok:=⟨A2.rep,A2.rep,fun i hi=>by
 have h:i<64:=by simpa [CL] using hi
 show -40000≤AG (List.replicate 64 (0:Int)) i∧AG (List.replicate 64 (0:Int)) i≤40000
 rw [NW _ _ _ h];omega⟩
theorem OI:∃bst:List Int→Int,∀c C S,Mk c c.length C S→An c c.length (lw (Bt C S))=bst c:=by
 have h:∀c:List Int,∃v:Int,∀C S,Mk c c.length C S→An c c.length (lw (Bt C S))=v:=fun c=>by
  by_cases hx:∃C S,Mk c c.length C S
  ·obtain ⟨C0,S0,h0⟩:=hx
   exact ⟨_,fun C S h1=>Int.le_antisymm (h1.best _ h0.lens) (h0.best _ h1.lens)⟩
  exact ⟨0,fun C S h1=>absurd ⟨C,S,h1⟩ hx⟩
 exact ⟨fun c=>Classical.choose (h c),fun c=>Classical.choose_spec (h c)⟩
theorem Dy(l:List Int):(C1 l).length=l.length:=by simp [C1]
theorem J8(l:List Int):Bd 40000 (C1 l):=fun i hi=>by
 rw [Dy] at hi
 have:AG (C1 l) i=min (max (AG l i) (-40000)) 40000:=by simp [C1,AG,List.getD,hi]
 rw [this];omega
theorem Gt{D:Dk}(h:D.ok){R:List Int}(hR:A2 R 64)(E:Int):(Io D R E).2.ok:=by
 unfold Io
 split
 ·exact h
 exact ⟨by unfold A2;rw [Dy];exact hR,h.q,J8 R⟩
theorem E8(D:Dk)(R:List Int)(E:Int)(h:(Io D R E).1.2≠0):(Io D R E).2=D:=by
 unfold Io at h⊢
 split
 ·rfl
 rename_i h1;rw [if_neg h1] at h;exact absurd rfl h
theorem OX{l:List Int}{m x:Int}(h:Bd m l)(hx: -m≤x∧x≤m)(k:Nat):Bd m (l.set k x):=fun i hi=>by
 rw [List.length_set] at hi
 by_cases hk:k<l.length
 ·rw [EM l k i x hk];split
  ·exact hx
  exact h i hi
 rw [List.set_eq_of_length_le (by omega)];exact h i hi
theorem NB(bst:List Int→Int)(c:F6){D:Dk}(h:D.ok)(n:List Int):(DO bst c D n).2.ok:=by
 cases c
 case kSet=>
  show (En D n).2.ok
  unfold En
  split
  ·exact h
  split
  ·exact h
  rename_i h1 h2
  exact ⟨by unfold A2;rw [List.length_set];exact h.b,h.q,OX h.r (by omega) _⟩
 case kCoarse=>
  show (BP D n).2.ok
  unfold BP
  split
  ·exact ⟨h.b,A2.rep,h.r⟩
  exact h
 case kWave=>exact Gt h (Cf _ _) _
 case kBack=>exact Gt h (Cf _ _) _
 case kDown=>exact Gt h (Cp _ _ h.b h.q) _
 case kUp=>exact Gt h (EX _ _ h.b h.q) _
 all_goals exact h
theorem LW(bst:List Int→Int)(c:F6)(D:Dk)(n:List Int)(he:(DO bst c D n).1.2≠0):(DO bst c D n).2=D:=by
 cases c
 case kSet=>
  show (En D n).2=D
  have he:(En D n).1.2≠0:=he
  unfold En at he⊢
  split
  ·rfl
  rename_i h1;rw [if_neg h1] at he
  split
  ·rfl
  rename_i h2;rw [if_neg h2] at he;exact absurd rfl he
 case kCoarse=>
  show (BP D n).2=D
  have he:(BP D n).1.2≠0:=he
  unfold BP at he⊢
  split
  ·rename_i h1;rw [if_pos h1] at he;exact absurd rfl he
  rfl
 case kWave=>exact E8 _ _ _ he
 case kBack=>exact E8 _ _ _ he
 case kDown=>exact E8 _ _ _ he
 case kUp=>exact E8 _ _ _ he
 all_goals rfl
theorem Lu(bst:List Int→Int){D:Dk}(h:D.ok)(s:ByteArray):(As bst D s).2.ok:=by
 unfold As
 split
 ·exact h
 split
 ·exact h
 split
 ·split
  ·exact h
  exact NB bst _ h _
 exact h
theorem KR(bst:List Int→Int)(D:Dk)(s:ByteArray):(As bst D s).1.2≠0→(As bst D s).2=D:=by
 unfold As
 split
 ·intro _;rfl
 split
 ·intro _;rfl
 split
 ·split
  ·intro _;rfl
  exact LW bst _ _ _
 intro _;rfl
theorem Fr(s r:ByteArray):(s.toList==r.toList)=decide (s=r):=by
 by_cases h:s=r
 ·subst h;simp
 rw [decide_eq_false h]
 refine beq_eq_false_iff_ne.2 fun h2=>h ?_
 rw [Go.ByteArray.toList_eq,Go.ByteArray.toList_eq] at h2
 exact ByteArray.ext (Array.toList_inj.1 h2)
section
variable{P:Program}{ty t u:TypeId}{a:Act}{x y:Operand}{s r:ByteArray}
theorem V.lenS(ht:P.underlying t=some .string)(hx:a.eval x= .string s):Bk P (.call {callee:= .builtin .len,args:=#[x],argTypes:=#[t]}) ty a (.int .i64 (s.size:Nat)):=fun d pos af g w=>by
 have e2:=run_len_string (P:=P) (w:=w) t ty s ht
 simp only [execOp,resolve,invoke,builtin,Sem.run_bind,Sem.run_pure,Result.andThen_ok,List.map_toArray,List.map_cons,List.map_nil,hx,e2]
 rfl
theorem V.eqlS(hx:a.eval x= .string s)(hy:a.eval y= .string r):Bk P (.binOp .eql t x y u) ty a (.bool (decide (s=r))):=fun d pos af g w=>by
 have e:=Fr s r
 simp only [execOp,hx,hy,eqGuard_at_string,binOp,Op.stringOp]
 simp [e]
theorem V.neqS(hx:a.eval x= .string s)(hy:a.eval y= .string r):Bk P (.binOp .neq t x y u) ty a (.bool (decide (s≠r))):=fun d pos af g w=>by
 have e:=Fr s r
 simp only [execOp,hx,hy,eqGuard_at_string,binOp,Op.stringOp]
 simp [e]
theorem V.eqlT(hx:a.eval x= .string s)(hy:a.eval y= .string r)(h:s=r):Bk P (.binOp .eql t x y u) ty a (.bool true):=by have:=V.eqlS (P:=P) (ty:=ty) (t:=t) (u:=u) hx hy;rwa [decide_eq_true h] at this
theorem V.eqlF(hx:a.eval x= .string s)(hy:a.eval y= .string r)(h:s≠r):Bk P (.binOp .eql t x y u) ty a (.bool false):=by have:=V.eqlS (P:=P) (ty:=ty) (t:=t) (u:=u) hx hy;rwa [decide_eq_false h] at this
theorem V.addS(hx:a.eval x= .string s)(hy:a.eval y= .string r)(h:s.size+r.size≤1000000):Bk P (.binOp .add t x y u) ty a (.string (s++r)):=fun d pos af g w=>by
 have e:(x matches .const _)=(x matches .const _):=rfl
 have e2:(Op.stringOp .add s r).run P w= .ok (.string (s++r)) w:=run_string_add_sum w s r (by omega)
 simp only [execOp,hx,hy,eqGuard,binOp_string_add,Sem.run_bind]
 simp [e2]
theorem V.nilI{ms:Array (String×TypeId)}(ht:P.underlying t=some (.interface ms))(hx:a.eval x= .nilIface):Bk P (.binOp .eql t x (.const .nilIface) u) ty a (.bool true):=fun d pos af g w=>by
 have e:(Op.equal t .nilIface .nilIface).run P w= .ok true w:=by
  unfold Op.equal Op.maxDepth;rw [show (10000:Nat)=9999+1 from rfl,Op.equalIn];simp [run_underlying ht]
 have e2:a.eval (.const .nilIface)= .nilIface:=rfl
 simp only [execOp,hx,e2,eqGuard,binOp]
 simp [e]
theorem V.notNilI{ms:Array (String×TypeId)}{d:TypeId}{v:Value}(ht:P.underlying t=some (.interface ms))(hx:a.eval x= .iface d v):Bk P (.binOp .eql t x (.const .nilIface) u) ty a (.bool false):=fun d' pos af g w=>by
 have e:(Op.equal t (.iface d v) .nilIface).run P w= .ok false w:=by
  unfold Op.equal Op.maxDepth;rw [show (10000:Nat)=9999+1 from rfl,Op.equalIn];simp [run_underlying ht]
 have e2:a.eval (.const .nilIface)= .nilIface:=rfl
 simp only [execOp,hx,e2,eqGuard,binOp]
 simp [e]
end
theorem FJ(a b:ByteArray):(a==b)=decide (a=b):=by
 cases a with
 | mk a=>cases b with
   | mk b=>
     show (a==b)=_
     by_cases h:a=b
     ·subst h;simp
     rw [decide_eq_false (fun e=>h (by injection e)),beq_eq_false_iff_ne];exact h
def sk(s:ByteArray):Value:= .string s
theorem Ah{P:Program}{kt:TypeId}(h:P.underlying kt=some .string):Cg P kt sk where
 check w b k:=by
  unfold sk
  rw [show (10000:Nat)=9999+1 from rfl,Instr.checkKey]
  simp [run_underlying h]
 find w k l:=by
  have key:∀(l:List (ByteArray×Value×Nat)) i,Instr.findNow .string (sk k) (l.map (BU sk)) i=some (AW k l i):=by
   intro l
   induction l with
   | nil=>intro i;rfl
   | cons x l ih=>
     intro i
     simp only [List.map_cons,Instr.findNow,AW,BU,sk,Instr.sameNow]
     by_cases hx:k=x.1
     ·simp [hx,FJ]
     have:(k==x.1)=false:=by rw [FJ,decide_eq_false hx]
     simp only [this,hx,if_false]
     exact ih (i+1)
  simp [Instr.findKey,run_underlying h,key]
 same k:=by
  unfold sk
  rw [show (10000:Nat)=9999+1 from rfl,Instr.sameBits]
  simp [FJ]
structure CZ(w:World):Prop where
 tab:Lib.TabIs Tryz.prog w "internal/strconv.uint64pow10" .u64 Lib.pow10Tab
 syn:∃ev,w.cell? ⟨1,0,none⟩=some ev∧(ev= .nilIface∨∃te pe,ev= .iface te pe)
 rng:∃ev,w.cell? ⟨2,0,none⟩=some ev∧(ev= .nilIface∨∃te pe,ev= .iface te pe)
theorem CZ.ext{w w':World}(h:CZ w)(hE:AP w w'):CZ w':=by
 refine ⟨?_,h.syn.imp fun ev x=>⟨hE.cell x.1,x.2⟩,h.rng.imp fun ev x=>⟨hE.cell x.1,x.2⟩⟩
 have h1:=h.tab
 unfold Lib.TabIs World.var? at h1⊢
 rw [Option.bind_eq_some_iff] at h1⊢
 obtain ⟨g,h2,h3⟩:=h1
 refine ⟨g,h2,?_⟩
 have hg:g<w.heap.size:=by
  by_cases hg:g<w.heap.size
  ·exact hg
  rw [Array.getElem?_eq_none (by omega)] at h3;cases h3
 rw [hE.block g hg]
 exact h3
theorem Le(w:World)(k:Nat)(os:Array Obj):AP w (Sort.grow (w.drewN k) os):=⟨rfl,rfl,rfl,by simp [Sort.grow,World.drewN],fun i hi=>by show (w.heap++os)[i]? =w.heap[i]?;exact Array.getElem?_append_left hi⟩
theorem Be{w:World}{ad:Option Addr}{n c:Nat}{cs:List Value}(hv:Sl w 1 (.slice ad n c) n cs)(hn:0<n):∃b off,ad=some ⟨b,off,none⟩∧∀k v,cs[k]? =some v→w.cell? ⟨b,off+k,none⟩=some v:=by
 obtain ⟨hl,a1,c1,e1,hnc,hcm,hor⟩:=hv
 cases e1
 rcases hor with h0|⟨b,off,rfl,hc⟩
 ·omega
 refine ⟨b,off,rfl,fun k v hk=>?_⟩
 rw [hc k (by rw [←hl];exact (List.getElem?_eq_some_iff.1 hk).1),hk]
theorem MH{w:World}{ad:Option Addr}{n c:Nat}{l:List Int}(hv:Sl w 1 (.slice ad n c) n (l.map (Value.int .i64)))(hn:0<n):∃b off,ad=some ⟨b,off,none⟩∧∀k,k<n→w.cell? ⟨b,off+k,none⟩=some (.int .i64 (AG l k)):=by
 have hl:l.length=n:=by have:=hv.1;simpa using this
 obtain ⟨b,off,e,h⟩:=Be hv hn
 refine ⟨b,off,e,fun k hk=>h k _ ?_⟩
 have hk:k<l.length:=by omega
 simp [AG,List.getD,hk]
theorem FW(w:World)(n:Int)(h0: -9223372036854775808≤n∧n≤9223372036854775807)(hL:CZ w):Calls Tryz.prog 11 #[.int .i64 n] w fun e w'=>e= .returned (.string (Ba n))∧AP w w':=by
 refine (Tryz.strconv_Itoa n h0.1 h0.2 w hL.tab).mono fun e w' ⟨h,k,os,h2⟩=>⟨h,?_⟩
 subst h2
 exact Le w k os
theorem MO(w:World)(s:ByteArray):Calls Tryz.prog 36 #[.string s, .string ⟨#[45]⟩] w fun e w'=>e= .returned (.string (Jr s))∧AP w w':=by
 refine (Tryz.strings_TrimPrefix s ⟨#[45]⟩ w).mono fun e w' ⟨h,h2⟩=>⟨h,h2▸ AP.refl _⟩
theorem Hz(w:World)(s:ByteArray)(hs:s.size≤300)(hL:CZ w):Calls Tryz.prog 35 #[.string s] w fun e w'=>(∀n,Lib.atoiAll s.data.toList= .ok n→e= .returned (.tuple #[.int .i64 n, .nilIface])∧AP w w')∧
 ((∀n,Lib.atoiAll s.data.toList≠ .ok n)→∃n t N,e= .returned (.tuple #[.int .i64 n, .iface t (.pointer (some ⟨N,0,none⟩))])∧AP w w'):=by
 cases hA:Lib.atoiAll s.data.toList with
 | ok v=>
   refine (Tryz.strconv_Atoi_ok s (by omega) v hA w).mono fun e w' ⟨h,h2⟩=>⟨fun n hn=>?_,fun hn=>absurd rfl (hn v)⟩
   cases hn
   refine ⟨h,?_⟩
   rcases h2 with rfl|⟨t,rfl⟩
   ·exact AP.refl _
   exact Lib.bytesWorld_below _ _ _
 | «syntax»=>
   obtain ⟨ev,h1,h2⟩:=hL.syn
   exact (Tryz.strconv_Atoi_syntax s (by omega) hA ev w h1 h2).mono fun e w' ⟨N,h,_,_,hb⟩=>⟨fun n hn=>(by cases hn),fun _=>⟨_,_,N,h,hb⟩⟩
 | range=>
   obtain ⟨ev,h1,h2⟩:=hL.rng
   exact (Tryz.strconv_Atoi_range s (by omega) hA ev w h1 h2).mono fun e w' ⟨N,h,_,_,hb⟩=>⟨fun n hn=>(by cases hn),fun _=>⟨_,_,N,h,hb⟩⟩
theorem Ln(w:World)(bk o c:Nat)(xs:List ByteArray)(hcells:∀(j:Nat) x,xs[j]? =some x→w.cell? ⟨bk,o+j,none⟩=some (.string x))(hbk:bk<w.heap.size)(hN:xs.length≤1000000)(hcap:xs.length≤c)(hl:∀x∈xs,x.size≤1000000):
 Calls Tryz.prog 63 #[.slice (some ⟨bk,o,none⟩) xs.length c, .string ⟨#[32]⟩] w fun e w'=>e= .returned (.string ⟨(Lib.join (xs.map (·.data.toList)) [32]).toArray⟩)∧AP w w':=by
 refine (Tryz.strings_Join bk o c xs ⟨#[32]⟩ w hcells hbk (by omega) hcap ?_).mono fun e w' ⟨h,h2⟩=>⟨h,h2⟩
 have hle:Lib.lens (xs.map (·.data.toList))≤xs.length*1000000:=by
  clear hcells hN hcap
  induction xs with
  | nil=>simp [Lib.lens]
  | cons x r ih=>
    have h1:=hl x (by simp)
    have h2:=ih fun y hy=>hl y (by simp [hy])
    have h3:x.data.toList.length=x.size:=by rw [Array.length_toList];rfl
    simp only [Lib.lens,List.map_cons,List.sum_cons,List.length_cons] at h2⊢
    omega
 cases xs with
 | nil=>
   show ([]:List UInt8).length≤_
   exact Nat.zero_le _
 | cons x r=>
   rw [List.map_cons] at hle⊢
   rw [Lib.join_length]
   have h9:([32]:List UInt8).length=1:=rfl
   simp only [List.length_map,List.length_cons] at hle hN⊢
   show 1*r.length+Lib.lens (x.data.toList::List.map (fun x=>x.data.toList) r)≤_
   omega
theorem Km(w:World)(x:Nat):Calls Tryz.prog 13 #[.int .i32 x] w fun e w'=>e= .returned (.bool (decide (x=32)))∧w'=w:=by
 go_enter Tryz.func13,Tryz.ntmps13
 repeat' (first
  | refine X0 ?_|refine K9 4 ?_|refine AF ?_;go_step|fail)
 go_ret
 exact ⟨by rw [show decide (x=32)=decide ((x:Int)=32) by rw [Bool.eq_iff_iff];simp;omega];rfl,rfl⟩
theorem C2(w:World)(s:ByteArray)(hs:s.size≤300):Calls Tryz.prog 12 #[.string s, .func (.func 13) #[] #[]] w fun e w'=>∃A n,(Ax s).length=n∧e= .returned (.slice (some ⟨A,0,none⟩) n n)∧St w w' [own 9 1 (some ⟨A,0,none⟩) n n ((Ax s).map Value.string)]:=by
 refine (Tryz.strings_FieldsFunc 13 #[] Tryz.call13 (fun c=>decide (c=32)) s w (by omega) fun W x _=>?_).mono fun e w' ⟨A,h1,h2,h3,h4⟩=>?_
 ·exact (Km W x).mono fun e w' ⟨h1,h2⟩=>⟨h1,0,h2⟩
 refine ⟨A,_,rfl,h1,h4,[A],by simp,fun b hb=>by rw [List.mem_singleton] at hb;omega,[A],[],rfl,⟨rfl,?_⟩,rfl⟩
 rcases h3.2 with ⟨k1,_⟩|⟨g,cap,cur,k1,k2,k3⟩
 ·cases k1
 exact ⟨h3.1, .inr ⟨g,cap,cur,k1,Nat.zero_le _,k3⟩⟩
theorem L6{s:ByteArray}{n:Int}(h:EN s=some n): -9223372036854775808≤n∧n≤9223372036854775807:=by
 unfold EN at h
 split at h
 ·rename_i k hk
  split at h
  ·cases h;exact Lib.atoiAll_bounds hk
  cases h
 cases h
theorem JA(w0:World)(s:ByteArray)(hs:s.size≤300)(hL:CZ w0):Calls Tryz.prog 15 #[.string s] w0 fun e w=>∃n b,e= .returned (.tuple #[.int .i64 n, .bool b])∧(∀k,EN s=some k→n=k∧b=true)∧(EN s=none→b=false)∧AP w0 w:=by
 have hS:=St.start w0
 by_cases hA:∃n,Lib.atoiAll s.data.toList= .ok n
 ·obtain ⟨n,hA⟩:=hA
  have hn:=Lib.atoiAll_bounds hA
  have HA:=AD fun (w:World)(hx:AP w0 w)=>(Hz w s hs (hL.ext hx)).mono fun e w' hh=>hh.1 n hA
  have HI:=AD fun (w:World)(hx:AP w0 w)=>FW w n hn (hL.ext hx)
  have HT:=AD fun (w:World)=>MO w s
  have hN:EN s=if Ba n=s∧(Jr s).size≤9 then some n else none:=by unfold EN;rw [hA]
  obtain ⟨I,hI⟩:∃I,Ba n=I:=⟨_,rfl⟩
  obtain ⟨T,hT⟩:∃T,Jr s=T:=⟨_,rfl⟩
  rw [hI] at hN HI
  rw [hT] at hN HT
  have HN:=AD hN
  clear hN hA hL hI hT
  by_cases h1:I=s
  ·by_cases h2:T.size≤9
   ·have HN2:=AD (HN.out.trans (if_pos ⟨h1,h2⟩))
    go_enter Tryz.func15,Tryz.ntmps15
    repeat' (first
     | (refine Av 35 ?_);refine Aw AA Tryz.call35 (HA.out _ hS.1) (Dj hS ?_);clear hS;intro w hS;go_step|(refine Av 11 ?_);refine Aw AA Tryz.call11 (HI.out _ hS.1) (Dj hS ?_);clear hS;intro w hS;go_step|(refine Av 36 ?_);refine Aw AA Tryz.call36 (HT.out _) (Dj hS ?_);clear hS;intro w hS;go_step|(refine AM 13 ?_);refine AY AA (V.nilI Tryz.underlying61 rfl) ?_;go_step|(refine AM 18 ?_);refine AY AA (V.eqlT rfl rfl h1) ?_;go_step|refine OE 23 ?_|refine X0 ?_|refine X6 ?_|refine Jd 9 ?_|refine Jd 10 ?_|refine OF 24 ?_|refine AF ?_;go_step|fail)
    all_goals (try exact Ak)
    refine AI (xs:=[_,_]) rfl (.cons (AC.tmp rfl) (.cons (AC.tmp rfl) (.nil))) (by simp) rfl ?_
    exact ⟨n,_,rfl,fun k hk=>(by rw [HN2.out] at hk;cases hk;exact ⟨rfl,by first|rfl|exact decide_eq_true (by omega)⟩),fun hk=>(by rw [HN2.out] at hk;cases hk),hS.1⟩
   have HN2:=AD (HN.out.trans (if_neg fun h=>h2 h.2))
   go_enter Tryz.func15,Tryz.ntmps15
   repeat' (first
    | (refine Av 35 ?_);refine Aw AA Tryz.call35 (HA.out _ hS.1) (Dj hS ?_);clear hS;intro w hS;go_step|(refine Av 11 ?_);refine Aw AA Tryz.call11 (HI.out _ hS.1) (Dj hS ?_);clear hS;intro w hS;go_step|(refine Av 36 ?_);refine Aw AA Tryz.call36 (HT.out _) (Dj hS ?_);clear hS;intro w hS;go_step|(refine AM 13 ?_);refine AY AA (V.nilI Tryz.underlying61 rfl) ?_;go_step|(refine AM 18 ?_);refine AY AA (V.eqlT rfl rfl h1) ?_;go_step|refine OE 23 ?_|refine X0 ?_|refine X6 ?_|refine Jd 9 ?_|refine Jd 10 ?_|refine OF 24 ?_|refine AF ?_;go_step|fail)
   all_goals (try exact Ak)
   refine AI (xs:=[_,_]) rfl (.cons (AC.tmp rfl) (.cons (AC.tmp rfl) (.nil))) (by simp) rfl ?_
   exact ⟨n,_,rfl,fun k hk=>(by rw [HN2.out] at hk;cases hk),fun _=>(by first|rfl|exact decide_eq_false (by omega)),hS.1⟩
  have HN2:=AD (HN.out.trans (if_neg fun h=>h1 h.1))
  go_enter Tryz.func15,Tryz.ntmps15
  repeat' (first
   | (refine Av 35 ?_);refine Aw AA Tryz.call35 (HA.out _ hS.1) (Dj hS ?_);clear hS;intro w hS;go_step|(refine Av 11 ?_);refine Aw AA Tryz.call11 (HI.out _ hS.1) (Dj hS ?_);clear hS;intro w hS;go_step|(refine AM 13 ?_);refine AY AA (V.nilI Tryz.underlying61 rfl) ?_;go_step|(refine AM 18 ?_);refine AY AA (V.eqlF rfl rfl h1) ?_;go_step|go_skip|refine X0 ?_|refine Ox ?_|refine Jd 9 ?_|refine Jd 10 ?_|refine AF ?_;go_step|fail)
  all_goals (try exact Ak)
  refine AI (xs:=[_,_]) rfl (.cons (AC.tmp rfl) (.cons (AC.tmp rfl) (.nil))) (by simp) rfl ?_
  exact ⟨n,_,rfl,fun k hk=>(by rw [HN2.out] at hk;cases hk),fun _=>rfl,hS.1⟩
 have HA:=AD fun (w:World)(hx:AP w0 w)=>(Hz w s hs (hL.ext hx)).mono fun e w' hh=>hh.2 fun n hn=>hA ⟨n,hn⟩
 have HN2:Hid (EN s=none):=AD (by
  unfold EN
  split
  ·rename_i k hk;exact absurd ⟨k,hk⟩ hA
  rfl)
 clear hA hL
 go_enter Tryz.func15,Tryz.ntmps15
 repeat' (first
  | (refine Av 35 ?_);refine Aw AA Tryz.call35 (HA.out _ hS.1) ?_;rintro e w ⟨n,t,N,rfl,hE⟩;replace hS:=hS.ext hE;clear hE;refine A9 ?_;go_step|(refine AM 13 ?_);refine AY AA (V.notNilI Tryz.underlying61 rfl) ?_;go_step|go_skip|refine X0 ?_|refine Jc ?_|refine Jd 9 ?_|refine Jd 10 ?_|refine AF ?_;go_step|fail)
 all_goals (try exact Ak)
 refine AI (xs:=[_,_]) rfl (.cons (AC.tmp rfl) (.cons (AC.tmp rfl) (.nil))) (by simp) rfl ?_
 exact ⟨n,_,rfl,fun k hk=>(by rw [HN2.out] at hk;cases hk),fun _=>rfl,hS.1⟩
theorem Ll(n:Int)(h: -9223372036854775808≤n∧n≤9223372036854775807):(Ba n).size≤1000000:=by
 have:=Lib.itoa_length_le n h.1 h.2
 show (Lib.itoa n).toArray.size≤_
 rw [List.size_toArray]
 omega
theorem DT(w0:World)(ad:Option Addr)(n c:Nat)(l:List Int)(hv:Sl w0 1 (.slice ad n c) n (l.map (Value.int .i64)))(hr:∀i,i<n→ -9223372036854775808≤AG l i∧AG l i≤9223372036854775807)(hn:n≤1000000)(hL:CZ w0):
 Calls Tryz.prog 39 #[.slice ad n c] w0 fun e w=>e= .returned (.string (Bo l))∧AP w0 w:=by
 have hS:=St.start w0
 have hl:l.length=n:=by have:=hv.1;simpa using this
 by_cases h0:n=0
 ·subst h0
  have HT:Hid (Bo l=⟨#[45]⟩):=AD (by unfold Bo;rw [if_pos hl])
  clear hl hr hL
  go_enter Tryz.func39,Tryz.ntmps39
  repeat' (first
   | refine X0 ?_|refine J4 7 ?_|refine K9 8 ?_|refine AF ?_;go_step|fail)
  all_goals (try exact Ak)
  go_ret
  exact ⟨by rw [HT.out];rfl,hS.1⟩
 have HT:Hid (Bo l=⟨(Lib.join ((l.map Ba).map (·.data.toList)) [32]).toArray⟩):=AD (by unfold Bo;rw [if_neg (by omega)])
 have HR:=AD hr
 have HL:=AD hL
 have HLn:=AD hl
 clear hr hL hl
 go_enter Tryz.func39,Tryz.ntmps39
 repeat' (first
  | refine X0 ?_|refine J4 7 ?_|refine K9 8 ?_|refine AF ?_;go_step|fail)
 all_goals (try exact Ak)
 repeat' (first
  | refine X1 ?_|refine J4 10 ?_|refine AF ?_;go_step|fail)
 replace hS:=hS.nil 9 1
 go_loopg [3,11] n (fun gk ov kv w=>∃(i:Nat) (ao:Option Addr) (co:Nat),gk+i=n∧ov= .slice ao i co∧kv= .int .i64 i∧St w0 w [own 9 1 ao i co (((l.take i).map Ba).map Value.string)])
 case atStart=>exact ⟨0,none,0,by omega,rfl,rfl,hS⟩
 case round=>
  clear hS
  obtain ⟨i,ao,co,hi,rfl,rfl,hS⟩:=hrel
  by_cases hlt:i<n
  ·have HI:=AD fun (w:World)(hx:AP w0 w)=>FW w (AG l i) (HR.out i hlt) (HL.out.ext hx)
   have hst:((l.take (i+1)).map Ba).map Value.string=((l.take i).map Ba).map Value.string++[.string (Ba (AG l i))]:=by
    have hil:i<l.length:=by rw [HLn.out];exact hlt
    have hni:AG l i=l[i]:=by simp [AG,List.getD,hil]
    rw [List.take_add_one,List.getElem?_eq_getElem hil,List.map_append,List.map_append,hni]
    rfl
   have HST:=AD hst
   clear hst
   obtain ⟨I,hI⟩:∃I,Ba (AG l i)=I:=⟨_,rfl⟩
   rw [hI] at HI HST
   clear hI
   obtain ⟨x0,y0,rfl,hx0⟩:=MH hv (by omega)
   replace hx0:=hx0 i hlt
   repeat' (first
    | (refine Av 11 ?_);refine Aw AA Tryz.call11 (HI.out _ hS.1) (Dj hS ?_);clear hS;intro w hS;go_step|refine X0 ?_|refine X2 12 ?_|refine Pj 13 ?_|refine Ph 20 ?_|refine Mh ?_|refine My 18 ?_;clear hS;intro g18 w hS|(refine AM 19 ?_);(refine Aq ?_;apply Am (o:=⟨some 19,_,_,_,_,_⟩) hS _ _ 22 rfl 9 1 16 IA _ _ _ _ rfl;(case hp=>exact AS);(case hx=>exact rfl);(case hm=>(first|exact hS.slBlk AS (by rfl) (by decide)|exact hS.sl AS|with_reducible assumption|exact Sl.ext (by with_reducible assumption) hS.1|exact Sl.nil _ _|exact Sl.ext (by assumption) hS.1|assumption));(case h1=>(first|exact B6 rfl|(intro u hu;obtain ⟨x,_,rfl⟩:=List.mem_map.1 hu;rfl)));(case h63=>unfold maxLen;omega);(case hb=>omega);clear hS;intro ad19 c19 w hS;(first|simp only [DC] at hS|simp only [DD] at hS|simp only [DE] at hS|simp only [DF] at hS|simp only [DG] at hS|skip);refine AB ?_;go_step)|refine AF ?_;go_step|fail)
   all_goals (try exact Ak)
   go_roundg (gk-1)
   case measure=>omega
   case rel=>exact ⟨i+1,_,_,by omega,rfl,by go_num,by rw [HST.out];exact hS.sub Ae⟩
  obtain rfl:i=n:=by omega
  have htk:l.take i=l:=List.take_of_length_le (by rw [HLn.out];exact Nat.le_refl _)
  rw [htk] at hS
  obtain ⟨bk,rfl⟩:=BS (a:=ao) hS AS (by omega)
  have HJ:=AD (Ln wr bk 0 co (l.map Ba) (fun j x hx=>by
   have h9:=hS.sl (a:=some ⟨bk,0,none⟩) (s:=1) AS
   obtain ⟨b2,o2,e2,hc2⟩:=Be h9 (by omega)
   cases e2
   exact hc2 j _ (by rw [List.getElem?_map,hx];rfl)) (by
   have h9:=hS.sl (a:=some ⟨bk,0,none⟩) (s:=1) AS
   obtain ⟨b2,o2,e2,hc2⟩:=Be h9 (by omega)
   cases e2
   have hil:0<l.length:=by rw [HLn.out];omega
   exact Lib.lt_of_cell (hc2 0 (.string (Ba l[0])) (by simp [hil]))) (by rw [List.length_map,HLn.out];omega) (by
   rw [List.length_map,HLn.out]
   have h9:=hS.sl (a:=some ⟨bk,0,none⟩) (s:=1) AS
   obtain ⟨_,aa,cc,e,h1,h2,_⟩:=h9
   cases e;exact h1) (fun x hx=>by
   obtain ⟨y,hy,rfl⟩:=List.mem_map.1 hx
   obtain ⟨k,hk,rfl⟩:=List.getElem_of_mem hy
   have:=HR.out k (by rw [←HLn.out];exact hk)
   rw [show AG l k=l[k] by simp [AG,List.getD,hk]] at this
   exact Ll _ this))
  rw [List.length_map,HLn.out] at HJ
  obtain ⟨J,hJ⟩:∃J,(⟨(Lib.join ((l.map Ba).map (·.data.toList)) [32]).toArray⟩:ByteArray)=J:=⟨_,rfl⟩
  rw [hJ] at HT HJ
  clear hJ htk
  repeat' (first
   | refine X1 ?_|refine X2 12 ?_|refine AF ?_;go_step|fail)
  all_goals (try exact Ak)
  repeat' (first
   | (refine Av 63 ?_);refine Aw AA Tryz.call63 (HJ.out) (Dj hS ?_);clear hS;intro w hS;go_step|refine X7 ?_|refine AF ?_;go_step|fail)
  go_ret
  exact ⟨by rw [HT.out];rfl,hS.1⟩
theorem KO(l:List Int):(Value.agg (iv l))=Value.agg (AE [.ints l]).toArray:=by simp [AE,AO.cells,iv]
theorem Fg(a b:List AO):AE (a++b)=AE a++AE b:=by
 induction a with
 | nil=>rfl
 | cons x a ih=>rw [List.cons_append,AE,AE,ih,List.append_assoc]
inductive Mf(ss:List AO):List AO→Nat→List AO→Prop
 | head {B D:List AO} (hb:(AE B).length=(AE ss).length):Mf ss (B++D) 0 (ss++D)
 | skipI {l:List Int} {ps ps':List AO} {off n o2:Nat} (hn:A2 l n) (h:n≤off) (ho:off-n=o2) (t:Mf ss ps o2 ps'):Mf ss (.ints l::ps) off (.ints l::ps')
 | skipV {v:Value} {ps ps':List AO} {off:Nat} (t:Mf ss ps off ps'):Mf ss (.val v::ps) (off+1) (.val v::ps')
theorem Mf.eq{ss ps ps':List AO}{off:Nat}(h:Mf ss ps off ps'):∃A B D:List Value,AE ps=A++(B++D)∧AE ps'=A++(AE ss++D)∧A.length=off∧B.length=(AE ss).length:=by
 induction h with
 | @head B D hb=>exact ⟨[],AE B,AE D,by rw [Fg];rfl,by rw [Fg];rfl,rfl,hb⟩
 | @skipI l ps ps' off n o2 hn h ho t ih=>
   obtain ⟨A,B,D,e1,e2,e3,e4⟩:=ih
   have hl:=hn.out
   exact ⟨l.map (Value.int .i64)++A,B,D,by rw [AE,e1,List.append_assoc];rfl,by rw [AE,e2,List.append_assoc];rfl,by simp;omega,e4⟩
 | @skipV v ps ps' off t ih=>
   obtain ⟨A,B,D,e1,e2,e3,e4⟩:=ih
   exact ⟨v::A,B,D,by rw [AE,e1];rfl,by rw [AE,e2];rfl,by simp [e3],e4⟩
theorem Gd(g:Nat):∀(vs B A D:List Value)(w:World),F4 w g (A++(B++D)).toArray→B.length=vs.length→F4 (w.setCells g A.length vs) g (A++(vs++D)).toArray∧Cm [g] w (w.setCells g A.length vs)
 | [],[],A,D,w,h,_=>⟨h,⟨rfl,rfl,rfl,Nat.le_refl _,fun _ _ _=>rfl⟩⟩
 | [],_::_,A,D,w,h,hl=>by simp at hl
 | _::_,[],A,D,w,h,hl=>by simp at hl
 | v::vs,b::B,A,D,w,h,hl=>by
   have h1:=h.set A.length v
   have e1:((A++(b::B++D)).toArray).setIfInBounds A.length v=((A++[v])++(B++D)).toArray:=by
    simp
   rw [e1] at h1
   obtain ⟨h2,h3⟩:=Gd g vs B (A++[v]) D _ h1 (by simpa using hl)
   have e2:w.setCells g A.length (v::vs)=(w.setCell ⟨g,A.length,none⟩ v).setCells g (A++[v]).length vs:=by
    rw [World.setCells,List.length_append];rfl
   rw [e2]
   refine ⟨by simpa using h2,?_⟩
   have h4:=Cm.setCell w ⟨g,A.length,none⟩ v
   exact ⟨h3.os.trans h4.os,h3.tape.trans h4.tape,h3.output.trans h4.output,Nat.le_trans h4.size h3.size,fun k hk hm=>(h3.block k (Nat.lt_of_lt_of_le hk h4.size) hm).trans (h4.block k hk hm)⟩
section
variable{P:Program}{W w:World}{rs rs':List Af}{Q:Exit→Act→World→Prop}{K:Act→World→Prop}{o:Oper}{a:Act}
theorem JU(hS:St W w rs)(ty:TypeId)(x y:Operand)(ho:o.op= .store ty x y)(g off:Nat)(hx:a.eval x= .pointer (some ⟨g,off,none⟩))(m:Nat)(h1:Cx P ty m)(ps ps' ss:List AO)(hp:AK (prt g ps) rs rs')
 (hy:a.eval y= .agg (AE ss).toArray) (hr:Mf ss ps off ps') (hm:(AE ss).length=m) (hv:ss.all Hd=true) (hd:o.dst=none) (h:∀w',St W w' (prt g ps'::rs')→K a w'):o.wp P a w K Q:=by
 obtain ⟨A,B,D,e1,e2,e3,e4⟩:=hr.eq
 subst e3
 have hb:=(hS.blk hp).1
 rw [e1] at hb
 obtain ⟨h2,h3⟩:=Gd g (AE ss) B A D w hb e4
 refine wp_store_mid ty x y ho g A.length (AE ss).toArray hx hy ?_ (by rw [h1.2];simp [hm]) (by simpa using DZ hv) ?_
 ·intro j hj
  rw [List.size_toArray] at hj
  refine ⟨?_,hb.free _⟩
  rw [hb.cell]
  have:A.length+j<(A++(B++D)).toArray.size:=by simp;omega
  rw [Array.getElem?_eq_getElem this];rfl
 rw [show a.put o.dst undef=a by rw [hd];rfl]
 refine h _ ?_
 refine St.change (rs1:=[prt g ps']) (hS.pull hp) fun f1 k1 _ _=>?_
 obtain ⟨rfl,_⟩:=k1
 refine ⟨[g],⟨[g],[],rfl,⟨rfl,?_⟩,rfl⟩,by simp,fun b hb=> .inl hb,h3⟩
 rw [e2];exact h2
end
theorem Hh(n:Int)(w:World)(h:n≤ -4096∨4096≤n):Calls Tryz.prog 50 #[.int .i64 n] w fun e w'=>e= .returned (.tuple #[.int .i64 0, .int .i64 0, .int .i64 1])∧AP w w':=by
 have hS:=St.start w
 go_enter Tryz.func50,Tryz.ntmps50
 repeat' (first
  | go_skip|((first|(with_reducible refine F2 ?_)|(with_reducible refine LA ?_));(first|go_big_want|go_step);go_step)|((with_reducible refine Al _ (.pick _ _ _) ?_);first|(refine Ag rfl AA ?_;go_step)|(refine AZ rfl AA ?_;go_step))|((refine AM 7 ?_);(refine Bz _ (V.leq rfl rfl) AA (fun hB=>?_) (fun hB=>?_)<;>(try exact Ak)<;>go_step))|((with_reducible refine Al _ (.binOp .geq _ _ _ _) ?_);(refine AY AA (V.geq rfl rfl) ?_;go_step))|(refine AF ?_;go_step)|fail)
 all_goals (try exact Ak)
 all_goals
  refine AI (xs:=[_,_,_]) rfl (.cons (AC.tmp rfl) (.cons (AC.tmp rfl) (.cons (AC.tmp rfl) (.nil)))) (by simp) rfl ?_
  exact ⟨rfl,hS.1⟩
theorem JI(a1 a2 a3 a4 b1 b2 b3 b4 c1 c2 c3 c4 r g b:Int)(w:World)(h:r<0∨255<r):
 Calls Tryz.prog 52 #[.agg #[.int .i64 a1, .int .i64 a2, .int .i64 a3, .int .i64 a4, .int .i64 b1, .int .i64 b2, .int .i64 b3, .int .i64 b4, .int .i64 c1, .int .i64 c2, .int .i64 c3, .int .i64 c4], .agg #[.int .i64 r, .int .i64 g, .int .i64 b]] w
  fun e w'=>e= .returned (.tuple #[.int .i64 0, .int .i64 0, .int .i64 0, .int .i64 1])∧AP w w':=by
 rcases h with h|h
 all_goals
  go_enter Tryz.func52,Tryz.ntmps52
  go_wp2_with (first|(with_reducible refine wp_loop_rounds 4 ?_)|(with_reducible rw [rounds_succ]))
  refine bodyPost_ret (A5 rfl _ _ _) rfl ?_
  exact ⟨rfl,by repeat (first|exact AP.refl _|apply AP.drew|apply AP.drewN|apply AP.alloc|refine AP.setCell ?_ (by simp;omega) _)⟩
theorem JJ(a1 a2 a3 a4 b1 b2 b3 b4 c1 c2 c3 c4 r g b:Int)(w:World)(ha1: -200000000≤a1∧a1≤200000000)(ha2: -200000000≤a2∧a2≤200000000)(ha4: -200000000≤a4∧a4≤200000000)(hr:0≤r∧r≤255)(h:g<0∨255<g):
 Calls Tryz.prog 52 #[.agg #[.int .i64 a1, .int .i64 a2, .int .i64 a3, .int .i64 a4, .int .i64 b1, .int .i64 b2, .int .i64 b3, .int .i64 b4, .int .i64 c1, .int .i64 c2, .int .i64 c3, .int .i64 c4], .agg #[.int .i64 r, .int .i64 g, .int .i64 b]] w
  fun e w'=>e= .returned (.tuple #[.int .i64 0, .int .i64 0, .int .i64 0, .int .i64 1])∧AP w w':=by
 have ⟨pa1,qa1⟩:=EI a1 r 200000000 255 ha1 hr
 simp only [Int.reduceMul,Int.reduceNeg] at pa1 qa1
 obtain ⟨hr1,hr2⟩:=hr
 obtain ⟨ha41,ha42⟩:=ha4
 clear ha1 ha2
 rcases h with h|h
 all_goals
  go_enter Tryz.func52,Tryz.ntmps52
  go_wp2_with (first|(with_reducible refine wp_loop_rounds 4 ?_)|(with_reducible rw [rounds_succ]))
  refine bodyPost_ret (A5 rfl _ _ _) rfl ?_
  exact ⟨rfl,by repeat (first|exact AP.refl _|apply AP.drew|apply AP.drewN|apply AP.alloc|refine AP.setCell ?_ (by simp;omega) _)⟩
theorem JK(a1 a2 a3 a4 b1 b2 b3 b4 c1 c2 c3 c4 r g b:Int)(w:World)(ha1: -200000000≤a1∧a1≤200000000)(ha2: -200000000≤a2∧a2≤200000000)(ha4: -200000000≤a4∧a4≤200000000)(hr:0≤r∧r≤255)(hg:0≤g∧g≤255)(h:b<0∨255<b):
 Calls Tryz.prog 52 #[.agg #[.int .i64 a1, .int .i64 a2, .int .i64 a3, .int .i64 a4, .int .i64 b1, .int .i64 b2, .int .i64 b3, .int .i64 b4, .int .i64 c1, .int .i64 c2, .int .i64 c3, .int .i64 c4], .agg #[.int .i64 r, .int .i64 g, .int .i64 b]] w
  fun e w'=>e= .returned (.tuple #[.int .i64 0, .int .i64 0, .int .i64 0, .int .i64 1])∧AP w w':=by
 have ⟨pa1,qa1⟩:=EI a1 r 200000000 255 ha1 hr
 have ⟨pa2,qa2⟩:=EI a2 g 200000000 255 ha2 hg
 simp only [Int.reduceMul,Int.reduceNeg] at pa1 qa1 pa2 qa2
 obtain ⟨hr1,hr2⟩:=hr
 obtain ⟨hg1,hg2⟩:=hg
 obtain ⟨ha41,ha42⟩:=ha4
 clear ha1 ha2
 rcases h with h|h
 all_goals
  go_enter Tryz.func52,Tryz.ntmps52
  go_wp2_with (first|(with_reducible refine wp_loop_rounds 4 ?_)|(with_reducible rw [rounds_succ]))
  refine bodyPost_ret (A5 rfl _ _ _) rfl ?_
  exact ⟨rfl,by repeat (first|exact AP.refl _|apply AP.drew|apply AP.drewN|apply AP.alloc|refine AP.setCell ?_ (by simp;omega) _)⟩
theorem Gh(a1 a2 a3 a4 b1 b2 b3 b4 c1 c2 c3 c4 r g b:Int)(w:World)(ha1: -200000000≤a1∧a1≤200000000)(ha2: -200000000≤a2∧a2≤200000000)(ha4: -200000000≤a4∧a4≤200000000)(h:(BA r&&BA g&&BA b)=false):
 Calls Tryz.prog 52 #[.agg #[.int .i64 a1, .int .i64 a2, .int .i64 a3, .int .i64 a4, .int .i64 b1, .int .i64 b2, .int .i64 b3, .int .i64 b4, .int .i64 c1, .int .i64 c2, .int .i64 c3, .int .i64 c4], .agg #[.int .i64 r, .int .i64 g, .int .i64 b]] w
  fun e w'=>e= .returned (.tuple #[.int .i64 0, .int .i64 0, .int .i64 0, .int .i64 1])∧AP w w':=by
 by_cases h1:0≤r∧r≤255
 ·by_cases h2:0≤g∧g≤255
  ·refine JK _ _ _ _ _ _ _ _ _ _ _ _ _ _ _ w ha1 ha2 ha4 h1 h2 ?_
   simp [BA,h1,h2] at h
   omega
  exact JJ _ _ _ _ _ _ _ _ _ _ _ _ _ _ _ w ha1 ha2 ha4 h1 (by omega)
 exact JI _ _ _ _ _ _ _ _ _ _ _ _ _ _ _ w (by omega)
theorem JN(r g b:Int)(w:World)(h:(BA r&&BA g&&BA b)=false):Calls Tryz.prog 32 #[.int .i64 r, .int .i64 g, .int .i64 b] w fun e w'=>e= .returned (.tuple #[.int .i64 0, .int .i64 0, .int .i64 0, .int .i64 1])∧AP w w':=by
 go_enter Tryz.func32,Tryz.ntmps32
 go_wp2_with (go_at_call 52;refine (Gh 19595 38470 7471 0 (-11059) (-21709) 32768 8388608 32768 (-27439) (-5329) 8388608 r g b _ (by omega) (by omega) (by omega) h).mono ?_;rintro e w' ⟨rfl,hgr⟩)
 refine bodyPost_ret (A5 rfl _ _ _) rfl ?_
 exact ⟨rfl,(by repeat (first|exact AP.refl _|apply AP.drew|apply AP.drewN|apply AP.alloc):AP w _).trans hgr⟩
theorem Hl(r g b:Int)(w:World)(h:(BA r&&BA g&&BA b)=false):Calls Tryz.prog 33 #[.int .i64 r, .int .i64 g, .int .i64 b] w fun e w'=>e= .returned (.tuple #[.int .i64 0, .int .i64 0, .int .i64 0, .int .i64 1])∧AP w w':=by
 go_enter Tryz.func33,Tryz.ntmps33
 go_wp2_with (go_at_call 52;refine (Gh 65536 0 91881 (-11760768) 65536 (-22554) (-46802) 8877568 65536 116130 0 (-14864640) r g b _ (by omega) (by omega) (by omega) h).mono ?_;rintro e w' ⟨rfl,hgr⟩)
 refine bodyPost_ret (A5 rfl _ _ _) rfl ?_
 exact ⟨rfl,(by repeat (first|exact AP.refl _|apply AP.drew|apply AP.drewN|apply AP.alloc):AP w _).trans hgr⟩
end Go.Proofs.YtngojkompmcceaaGreatDoor
