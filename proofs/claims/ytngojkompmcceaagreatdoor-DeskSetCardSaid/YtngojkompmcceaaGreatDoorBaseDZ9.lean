/- What the laws DeskFront DeskErrors DeskSet need, part 9. -/
import Derived.Test.YtngojkompmcceaaGreatDoorBaseDZ2
import Derived.Test.YtngojkompmcceaaGreatDoorBaseDZ3
import Derived.Test.YtngojkompmcceaaGreatDoorBaseDZ6
import Derived.Test.YtngojkompmcceaaGreatDoorBaseDZ8
import Derived.Lib.FieldsP
import Derived.Lib.AtoiAll
import Derived.Lib.ItoaNum
import Derived.Lib.JoinLaws
import Derived.Lib.Strings
import Derived.Laws.Strings
import Derived.Laws.Concat
import Derived.Lib.LaidTab
import Derived.Lib.ItoaLen
namespace Go.Proofs.YtngojkompmcceaaGreatDoor
attribute [local irreducible] Region.wanted
set_option linter.unusedVariables false
set_option maxRecDepth 100000
set_option maxHeartbeats 8000000
def A6(c:List Int)(n:Nat):List Int:=((List.range n).filter fun s=>decide (0<AG c s)).map fun (s:Nat)=>(s:Int)
def K2(c:List Int)(s:Int):Int:=if s= -1 then 0 else AG c s.toNat
theorem Aw(c:List Int)(n:Nat)(s:Int):s∈A6 c n↔0≤s∧s<n∧0<AG c s.toNat:=by
 unfold A6
 simp only [List.mem_map,List.mem_filter,List.mem_range,decide_eq_true_eq]
 constructor
 ·rintro ⟨a,⟨h1,h2⟩,rfl⟩;exact ⟨by omega,by omega,by simpa using h2⟩
 intro ⟨h1,h2,h3⟩;exact ⟨s.toNat,⟨by omega,h3⟩,by omega⟩
theorem GJ(c:List Int)(n:Nat):(A6 c n).Nodup:=by
 unfold A6
 rw [List.nodup_iff_pairwise_ne,List.pairwise_map]
 refine List.Pairwise.imp ?_ (List.Pairwise.filter _ List.nodup_range)
 intro a b h e
 exact h (by omega)
theorem Nn(c:List Int)(n:Nat):Ey (FK c n) (-1::A6 c n):=by
 refine ⟨?_,List.nodup_cons.2 ⟨fun h=>by have:=(Aw c n _).1 h;omega,GJ c n⟩⟩
 unfold FK A6
 simp [List.map_map,Function.comp_def]
theorem Qm(c:List Int)(n:Nat):∀x∈FK c n,x.1=isum (K2 c) x.2:=by
 intro x hx
 rcases List.mem_cons.1 hx with rfl|hx
 ·simp [isum,K2]
 obtain ⟨s,_,rfl⟩:=List.mem_map.1 hx
 simp only [isum,List.map_cons,List.map_nil,List.sum_cons,List.sum_nil,K2]
 rw [if_neg (by omega)];simp
theorem Ia(c:Nat→Nat):∀k,k≤16→nx c k*2^(16-k)=sm (fun i=>c i*2^(15-i)) k
 | 0,_=>by simp [nx,sm]
 | k+1,h=>by
   have ih:=Ia c k (by omega)
   rw [sm,←ih,nx,Nat.add_mul,show 16-k=(16-(k+1))+1 by omega,show 16-(k+1)=15-k by omega,Nat.pow_succ]
   rw [Nat.mul_comm 2 (nx c k),Nat.mul_assoc,Nat.mul_comm 2 (2^(15-k))]
theorem Ig(a b:Nat→Nat):∀k,sm (fun i=>a i+b i) k=sm a k+sm b k
 | 0=>rfl
 | k+1=>by simp only [sm];rw [Ig a b k];omega
theorem Dr{a b:Nat→Nat}:∀k,(∀i,i<k→a i=b i)→sm a k=sm b k
 | 0,_=>rfl
 | k+1,h=>by simp only [sm];rw [Dr k fun i hi=>h i (by omega),h k (by omega)]
def EW(l:Nat):Nat:=if 1≤l then 2^(16-l) else 0
theorem O2(l:Nat)(h:l≤16):sm (fun i=>(if l=i+1 then 1 else 0)*2^(15-i)) 16=EW l:=by
 have:∀l,l<17→sm (fun i=>(if l=i+1 then 1 else 0)*2^(15-i)) 16=EW l:=by decide
 exact this l (by omega)
theorem JZ(f:Int→Nat)(hf:∀s,f s≤16):∀n,sm (fun i=>(A9 f n (i+1)).length*2^(15-i)) 16=AS (fun s:Nat=>EW (f (s:Int))) (List.range n)
 | 0=>by simp [A9,AS];decide
 | n+1=>by
   rw [List.range_succ,Dc,←JZ f hf n]
   have:AS (fun s:Nat=>EW (f (s:Int))) [n]=EW (f (n:Int)):=by simp [AS]
   rw [this,←O2 _ (hf _),←Ig]
   refine Dr 16 fun i hi=>?_
   rw [EM,←Nat.add_mul]
   by_cases h:f (n:Int)=i+1
   ·rw [if_pos h,if_pos h,List.length_append];rfl
   rw [if_neg h,if_neg h];rfl
theorem Ed{α β:Type}(g:α→β)(f:β→Nat)(l:List α):AS f (l.map g)=AS (fun x=>f (g x)) l:=by
 unfold AS;rw [List.map_map];rfl
theorem NG{α β:Type}(g:α→β)(f:β→Int)(l:List α):isum f (l.map g)=isum (fun x=>f (g x)) l:=by
 unfold isum;rw [List.map_map];rfl
theorem JS{α:Type}(p:α→Bool)(f:α→Nat)(l:List α)(h:∀x∈l,p x=false→f x=0):AS f (l.filter p)=AS f l:=by
 induction l with
 | nil=>rfl
 | cons x l ih=>
   have ih:=ih fun y hy=>h y (by simp [hy])
   rw [List.filter_cons]
   by_cases hp:p x=true
   ·rw [if_pos hp,AX,AX,ih]
   rw [if_neg hp,AX,ih,h x (by simp) (by simpa using hp),Nat.zero_add]
theorem JJ{α:Type}(p:α→Bool)(f:α→Int)(l:List α)(h:∀x∈l,p x=false→f x=0):isum f (l.filter p)=isum f l:=by
 induction l with
 | nil=>rfl
 | cons x l ih=>
   have ih:=ih fun y hy=>h y (by simp [hy])
   rw [List.filter_cons]
   by_cases hp:p x=true
   ·rw [if_pos hp,BA,BA,ih]
   rw [if_neg hp,BA,ih,h x (by simp) (by simpa using hp),Int.zero_add]
def Av(c:List Int)(n:Nat)(l:Int→Nat):Int:=isum (fun s:Nat=>AG c s*(l (s:Int):Nat)) (List.range n)
structure G4(c:List Int)(n:Nat)(l:Int→Nat):Prop where
 top:∀s∈A6 c n,1≤l s∧l s≤16
 kraft:AS (fun s=>2^(16-l s)) (A6 c n)<2^16
theorem G9(c:List Int)(n:Nat)(l:Int→Nat)(h0:∀i,i<n→0≤AG c i):isum (fun s=>K2 c s*(l s:Nat)) (A6 c n)=Av c n l:=by
 unfold A6 Av
 rw [NG,Cb _ (fun s:Nat=>AG c s*(l (s:Int):Nat)) _ fun s _=>?_]
 ·refine JJ _ _ _ fun x hx hp=>?_
  have:=h0 x (List.mem_range.1 hx)
  have h1:¬0<AG c x:=by simpa using hp
  rw [show AG c x=0 by omega,Int.zero_mul]
 unfold K2;rw [if_neg (by omega)];simp
theorem NR{c:List Int}{n:Nat}{R:List Pk}(hn:n≤256)(h0:∀i,i<n→0≤AG c i)(hR:BU (FK c n) 16 R)(f:Int→Nat)(hf:f=Cc (R.take (2*(FK c n).length-2))):
 (∀s,f s≤16)∧(∀s,s∉A6 c n→0≤s→f s=0)∧G4 c n f∧(∀l,G4 c n l→Av c n f≤Av c n l)∧(∀a b,a∈A6 c n→b∈A6 c n→AG c b.toNat<AG c a.toNat→f a≤f b):=by
 have hS:=Nn c n
 have hlen:=hS.len
 have hpl:(A6 c n).length≤n:=by
  unfold A6
  have:=List.length_filter_le (fun s=>decide (0<AG c s)) (List.range n)
  simp at this⊢;exact this
 have hw0:∀s∈(-1::A6 c n),0≤K2 c s:=fun s hs=>by
  rcases List.mem_cons.1 hs with rfl|hs
  ·simp [K2]
  have:=(Aw c n s).1 hs
  unfold K2;rw [if_neg (by omega)];omega
 obtain ⟨_,b1,b2,b3,b4,b5⟩:=LF hS (K2 c) (Qm c n) hw0 (by simp) (by simp;omega) hR
 rw [←hlen,←hf] at b1 b2 b3 b4 b5
 have hpos:∀s∈A6 c n,1≤f s:=fun s hs=>Lc b3 (List.mem_cons_of_mem _ hs) (List.mem_cons_self (a:= -1)) (by have:=(Aw c n s).1 hs;omega)
 rw [AX] at b3
 have hone:1≤2^(16-f (-1)):=Nat.one_le_two_pow
 refine ⟨b1,fun s hs hs0=>b2 s (by simp only [List.mem_cons,not_or];exact ⟨by omega,hs⟩),⟨fun s hs=>⟨hpos s hs,b1 s⟩,by omega⟩,fun l hl=>?_,fun a b ha hb hab=>?_⟩
 ·have hb4:=b4 (fun s=>if s= -1 then 16 else l s) (fun s hs=>by
   show (if s= -1 then 16 else l s)≤16
   rcases List.mem_cons.1 hs with rfl|hs
   ·simp
   ·have:=(Aw c n s).1 hs
    rw [if_neg (by omega)];exact (hl.top s hs).2) (by
   rw [AX]
   have:=hl.kraft
   have e:AS (fun s=>2^(16-(if s= -1 then 16 else l s))) (A6 c n)=AS (fun s=>2^(16-l s)) (A6 c n):=BQ _ _ _ fun s hs=>by
    have:=(Aw c n s).1 hs
    rw [if_neg (by omega)]
   rw [e];simp;simp at this;omega)
  rw [BA,BA] at hb4
  have z:∀x:Int,K2 c (-1)*x=0:=fun x=>by simp [K2]
  rw [z,z,G9 c n f h0] at hb4
  have e:isum (fun s=>K2 c s*((if s= -1 then 16 else l s:Nat):Int)) (A6 c n)=isum (fun s=>K2 c s*(l s:Nat)) (A6 c n):=Cb _ _ _ fun s hs=>by
   have:=(Aw c n s).1 hs
   rw [if_neg (by omega)]
  rw [e,G9 c n l h0] at hb4
  omega
 have h1:=(Aw c n a).1 ha
 have h2:=(Aw c n b).1 hb
 exact b5 a b (List.mem_cons_of_mem _ hb) (by unfold K2;rw [if_neg (by omega),if_neg (by omega)];exact hab)
theorem GE{a b:Nat→Nat}:∀k,(∀i,i<k→a i=b i)→nx a k=nx b k
 | 0,_=>rfl
 | k+1,h=>by rw [nx,nx,GE k fun i hi=>h i (by omega),h k (by omega)]
theorem G8{a b:Nat→Nat}:∀k,(∀i,i<k→a i=b i)→Dh a k=Dh b k
 | 0,_=>rfl
 | k+1,h=>by rw [Dh,Dh,G8 k fun i hi=>h i (by omega),h k (by omega),GE k fun i hi=>h i (by omega)]
theorem Na(l:Nat)(h:l≤16):sm (fun i=>if l=i+1 then 1 else 0) 16=if 1≤l then 1 else 0:=by
 have:∀l,l<17→sm (fun i=>if l=i+1 then 1 else 0) 16=if 1≤l then 1 else 0:=by decide
 exact this l (by omega)
theorem JY(f:Int→Nat)(hf:∀s,f s≤16):∀n,sm (fun i=>(A9 f n (i+1)).length) 16=AS (fun s:Nat=>if 1≤f (s:Int) then 1 else 0) (List.range n)
 | 0=>by simp [A9,AS];decide
 | n+1=>by
   rw [List.range_succ,Dc,←JY f hf n]
   have:AS (fun s:Nat=>if 1≤f (s:Int) then 1 else 0) [n]=if 1≤f (n:Int) then 1 else 0:=by simp [AS]
   rw [this,←Na _ (hf _),←Ig]
   refine Dr 16 fun i hi=>?_
   rw [EM]
   by_cases h:f (n:Int)=i+1
   ·rw [if_pos h,if_pos h,List.length_append];rfl
   rw [if_neg h,if_neg h];rfl
theorem Dw(f:Int→Nat)(n:Nat):∀k,(Bh f n k).length=sm (fun i=>(A9 f n (i+1)).length) k
 | 0=>rfl
 | k+1=>by rw [Bn,List.length_append,Dw f n k,sm]
theorem FC(f:Int→Nat)(n k:Nat)(s:Int):s∈A9 f n k↔0≤s∧s<n∧f s=k:=by
 unfold A9
 simp only [List.mem_map,List.mem_filter,List.mem_range,decide_eq_true_eq]
 constructor
 ·rintro ⟨a,⟨h1,h2⟩,rfl⟩;exact ⟨by omega,by omega,h2⟩
 intro ⟨h1,h2,h3⟩;exact ⟨s.toNat,⟨by omega,by rw [Int.toNat_of_nonneg h1];exact h3⟩,by omega⟩
theorem Jd(f:Int→Nat)(n k:Nat):(A9 f n k).Nodup:=by
 unfold A9
 rw [List.nodup_iff_pairwise_ne,List.pairwise_map]
 refine List.Pairwise.imp ?_ (List.Pairwise.filter _ List.nodup_range)
 intro a b h e
 exact h (by omega)
theorem EN(f:Int→Nat)(n:Nat)(s:Int):∀k,s∈Bh f n k↔0≤s∧s<n∧1≤f s∧f s≤k
 | 0=>by simp [Bh];intro _ _ _;omega
 | k+1=>by
   rw [Bn,List.mem_append,EN f n s k,FC]
   constructor
   ·rintro (h|h)<;>omega
   intro h
   by_cases e:f s=k+1
   ·right;omega
   left;omega
theorem Em(f:Int→Nat)(n:Nat):∀k,(Bh f n k).Nodup
 | 0=>by simp [Bh]
 | k+1=>by
   rw [Bn,List.nodup_append]
   refine ⟨Em f n k,Jd f n (k+1),fun a ha b hb e=>?_⟩
   subst e
   have h1:=(EN f n a k).1 ha
   have h2:=(FC f n (k+1) a).1 hb
   omega
theorem ID(f:Int→Nat)(n:Nat):∀k,∀x∈(Bh f n k).zip (Dh (fun i=>(A9 f n (i+1)).length) k),x.2.1=f x.1
 | 0,x,h=>by simp [Bh] at h
 | k+1,x,h=>by
   rw [Bn,Dh,List.zip_append (by rw [Dw,DD])] at h
   rcases List.mem_append.1 h with h|h
   ·exact ID f n k x h
   have h1:=(List.of_mem_zip (a:=x.1) (b:=x.2) h)
   obtain ⟨j,_,e⟩:=List.mem_map.1 h1.2
   have h2:=(FC f n (k+1) x.1).1 h1.1
   rw [h2.2.2,←e]
def lw(L:List (Int×Nat×Nat))(s:Int):Nat:=match symW L s with
 | some x=>x.1
 | none=>0
theorem K3{C S:List Int}(h:sm (cc C) 16=S.length):(CA C S).map (·.1)=S:=by
 unfold CA
 exact List.map_fst_zip (by rw [DD,h];exact Nat.le_refl _)
theorem PG{C S:List Int}(h:sm (cc C) 16=S.length):(CA C S).map (·.2)=Dh (cc C) 16:=by
 unfold CA
 exact List.map_snd_zip (by rw [DD,h];exact Nat.le_refl _)
theorem IY{C S:List Int}(h:BL C S=0){x:Int×Nat×Nat}(hx:x∈CA C S):symW (CA C S) x.1=some x.2∧lw (CA C S) x.1=x.2.1:=by
 have:=(GZ h).symW hx
 exact ⟨this,by unfold lw;rw [this]⟩
theorem PO{C S:List Int}(h:BL C S=0){s:Int}(hs:s∈S):∃x∈CA C S,x.1=s:=by
 have h2:=(DN h).2.1
 rw [←K3 h2] at hs
 obtain ⟨x,hx,e⟩:=List.mem_map.1 hs
 exact ⟨x,hx,e⟩
theorem EH{C S:List Int}(h:BL C S=0)(s:Int):(s∈S→1≤lw (CA C S) s∧lw (CA C S) s≤16)∧(s∉S→lw (CA C S) s=0):=by
 constructor
 ·intro hs
  obtain ⟨x,hx,rfl⟩:=PO h hs
  rw [(IY h hx).2]
  have:=(GZ h).long x hx
  omega
 intro hs
 unfold lw
 cases e:symW (CA C S) s with
 | none=>rfl
 | some y=>exact absurd (Ip C S _ (El e)).1 hs
theorem J8{c C S:List Int}{n:Nat}{f:Int→Nat}(hn:n≤256)(h16:∀s,f s≤16)(hz:∀s,s∉A6 c n→0≤s→f s=0)(hl:G4 c n f)(hC:∀i,i<16→AG C i=((A9 f n (i+1)).length:Nat))(hS:S=Bh f n 16):
 BL C S=0∧(∀s:Int,0≤s→s<n→lw (CA C S) s=f s)∧S.length=(A6 c n).length∧(∀s,s∈S↔s∈A6 c n):=by
 have hcc:∀i,i<16→cc C i=(A9 f n (i+1)).length:=fun i hi=>by unfold cc;rw [hC i hi];simp
 have hmem:∀s,s∈S↔s∈A6 c n:=fun s=>by
  rw [hS,EN]
  constructor
  ·intro h
   by_cases hp:s∈A6 c n
   ·exact hp
   have:=hz s hp h.1;omega
  intro h
  have h1:=(Aw c n s).1 h
  have h2:=hl.top s h
  exact ⟨h1.1,h1.2.1,h2.1,h2.2⟩
 have hsm:sm (cc C) 16=S.length:=by rw [hS,Dw,Dr 16 hcc]
 have hlen:S.length=(A6 c n).length:=by
  rw [hS,Dw,JY f h16]
  unfold A6
  rw [List.length_map,←NW]
  refine BQ _ _ _ fun s hs=>?_
  by_cases hp:(s:Int)∈A6 c n
  ·have h1:=(Aw c n s).1 hp
   rw [if_pos (hl.top _ hp).1,if_pos (by simpa using h1.2.2)]
  have h1:¬0<AG c s:=fun h=>hp ((Aw c n s).2 ⟨by omega,by simp at hs;omega,by simpa using h⟩)
  rw [if_neg (by rw [hz _ hp (by omega)];omega),if_neg (by simpa using h1)]
 have hpl:(A6 c n).length≤n:=by
  unfold A6
  have:=List.length_filter_le (fun s=>decide (0<AG c s)) (List.range n)
  simp at this⊢;exact this
 have hnx:nx (cc C) 16<65536:=by
  have h1:=Ia (fun i=>(A9 f n (i+1)).length) 16 (by omega)
  rw [JZ f h16] at h1
  rw [GE 16 hcc]
  have h2:AS (fun s:Nat=>EW (f (s:Int))) (List.range n)=AS (fun s=>2^(16-f s)) (A6 c n):=by
   unfold A6
   rw [Ed,←JS (fun s=>decide (0<AG c s)) (fun s:Nat=>EW (f (s:Int))) (List.range n) fun s hs hp=>?_]
   ·refine BQ _ _ _ fun s hs=>?_
    have h3:=List.mem_filter.1 hs
    have hp:(s:Int)∈A6 c n:=(Aw c n s).2 ⟨by omega,by have:=h3.1;simp at this;omega,by simpa using h3.2⟩
    unfold EW;rw [if_pos (hl.top _ hp).1]
   have hp2:(s:Int)∉A6 c n:=fun h=>by have:=((Aw c n s).1 h).2.2;simp at this hp;omega
   unfold EW;rw [hz _ hp2 (by omega)];rfl
  rw [h2] at h1
  have:=hl.kraft
  simp at h1 this
  omega
 have htab:BL C S=0:=by
  refine PA ((CV C).2 ⟨fun k hk=>?_,by omega⟩) hsm (fun s hs=>?_) (by rw [hS];exact Em f n 16) ((Dq _).2 hnx)
  ·have:=Dv f n (k+1)
   rw [hC k hk];omega
  have:=(Aw c n s).1 ((hmem s).1 hs);omega
 refine ⟨htab,fun s h0 h1=>?_,hlen,hmem⟩
 by_cases hs:s∈S
 ·obtain ⟨x,hx,rfl⟩:=PO htab hs
  rw [(IY htab hx).2]
  refine ID f n 16 x ?_
  unfold CA at hx
  rw [hS,G8 16 hcc] at hx
  exact hx
 rw [(EH htab s).2 hs,hz s (fun h=>hs ((hmem s).2 h)) h0]
theorem JT{α:Type}[DecidableEq α](f:α→Nat):∀(A B:List α),A.Nodup→(∀a∈A,a∈B)→AS f A≤AS f B
 | [],B,_,_=>by simp [AS]
 | a::A,B,hn,h=>by
   obtain ⟨h1,h2⟩:=List.nodup_cons.1 hn
   have p:=List.perm_cons_erase (h a (by simp))
   rw [Lm f p,AX,AX]
   have:=JT f A (B.erase a) h2 fun x hx=>(List.mem_erase_of_ne (fun e=>h1 (by rw [←e];exact hx))).2 (h x (by simp [hx]))
   omega
theorem Kk(c:Nat→Nat):∀k,k≤16→AS (fun x=>2^(16-x.1)) (Dh c k)=nx c k*2^(16-k)
 | 0,_=>by simp [Dh,AS,nx]
 | k+1,h=>by
   rw [Ia c (k+1) h,sm,←Ia c k (by omega),←Kk c k (by omega),Dh,Dc,Ed]
   refine congrArg (_+ ·) ?_
   have:∀m,AS (fun _:Nat=>2^(16-(k+1))) (List.range m)=m*2^(15-k):=fun m=>by
    have:=Ee (fun _:Nat=>1) (2^(15-k)) (List.range m)
    simp only [Nat.one_mul] at this
    rw [show 16-(k+1)=15-k by omega,this,EI,List.length_range]
   exact this (c k)
theorem L5{C S:List Int}(h:BL C S=0)(c:List Int)(n:Nat)(hall:∀s∈A6 c n,s∈S):G4 c n (lw (CA C S)):=by
 obtain ⟨h1,h2,h3,h4,h5,h6⟩:=DN h
 refine ⟨fun s hs=>(EH h s).1 (hall s hs),?_⟩
 have a1:=JT (fun s=>2^(16-lw (CA C S) s)) (A6 c n) S (GJ c n) hall
 have a2:AS (fun s=>2^(16-lw (CA C S) s)) S=AS (fun x=>2^(16-x.2.1)) (CA C S):=by
  have e1:=Ed (fun x:Int×Nat×Nat=>x.1) (fun s=>2^(16-lw (CA C S) s)) (CA C S)
  rw [K3 h2] at e1
  rw [e1]
  exact BQ _ _ _ fun x hx=>by rw [(IY h hx).2]
 have a3:AS (fun x:Int×Nat×Nat=>2^(16-x.2.1)) (CA C S)=AS (fun x=>2^(16-x.1)) (Dh (cc C) 16):=by
  rw [←PG h2,Ed]
 have a4:=Kk (cc C) 16 (Nat.le_refl _)
 have a5:=(Dq _).1 h6
 simp at a4
 have:(2:Nat)^16=65536:=by decide
 omega
end Go.Proofs.YtngojkompmcceaaGreatDoor
namespace Go.Proofs.YtngojkompmcceaaGreatDoor
attribute [local irreducible] Region.wanted
open Go.RowKit
set_option linter.unusedVariables false
set_option maxRecDepth 100000
set_option maxHeartbeats 8000000
def OK(L:List (Int×Nat×Nat))(s:Int):Option Value:=(symW L s).map (fun y=> .int .i64 (y.1:Int))
theorem NL(L:List (Int×Nat×Nat))(s:Int)(l c:Nat):(fun j=>if j=s then some (Value.int .i64 (l:Int)) else OK L j)=OK (L++[(s,l,c)]):=by
 funext j
 unfold OK
 rw [L4]
 by_cases h:j=s
 ·rw [if_pos h,if_pos h];rfl
 rw [if_neg h,if_neg h]
theorem NK{L:List (Int×Nat×Nat)}{s:Int}(h:symW L s=none):OK L s=none∧lw L s=0:=by
 unfold OK lw;rw [h];exact ⟨rfl,rfl⟩
theorem NM{L:List (Int×Nat×Nat)}{s:Int}{y:Nat×Nat}(h:symW L s=some y):OK L s=some (.int .i64 ((lw L s:Nat):Int)):=by
 unfold OK lw;rw [h];rfl
theorem Fq(c:List Int)(n:Nat)(l:Int→Nat):Av c (n+1) l=Av c n l+AG c n*(l (n:Int):Nat):=by
 unfold Av;rw [List.range_succ,Db];simp [isum]
theorem Jy(c:List Int)(l:Int→Nat):Av c 0 l=0:=rfl
theorem I7{c:List Int}{l:Int→Nat}{n:Nat}(h:∀i,i<n→0≤AG c i∧AG c i≤9999)(h16:∀s,l s≤16):0≤Av c n l∧Av c n l≤n*159984:=by
 induction n with
 | zero=>rw [Jy];omega
 | succ n ih=>
   rw [Fq]
   have h1:=h n (by omega)
   have h2:=ih fun i hi=>h i (by omega)
   have h3:0≤AG c n*((l (n:Int):Nat):Int):=Int.mul_nonneg h1.1 (by omega)
   have h4:AG c n*((l (n:Int):Nat):Int)≤9999*16:=Int.mul_le_mul h1.2 (by have:=h16 (n:Int);omega) (by omega) (by omega)
   omega
def CK(c:List Int)(k:Nat)(L:List (Int×Nat×Nat)):Bool:=(List.range k).any fun i=>decide (0<AG c i)&&decide (lw L (i:Int)=0)
theorem JR(c:List Int)(k:Nat)(L:List (Int×Nat×Nat)):CK c (k+1) L=(CK c k L||(decide (0<AG c k)&&decide (lw L (k:Int)=0))):=by
 unfold CK;rw [List.range_succ,List.any_append];simp
theorem JQ(c:List Int)(L:List (Int×Nat×Nat)){k n:Nat}(h:k≤n)(hk:CK c k L=true):CK c n L=true:=by
 unfold CK at*
 rw [List.any_eq_true] at*
 obtain ⟨i,h1,h2⟩:=hk
 exact ⟨i,by simp at*;omega,h2⟩
def CN(C S c:List Int):Int:=if BL C S≠0 then BL C S else if bE c≠0 then bE c else if CK c c.length (CA C S) then 5 else 0
def D5(C S c:List Int):Int:=if CN C S c=0 then Av c c.length (lw (CA C S)) else 0
theorem My(w0:World)(C S:List Int)(ad:Option Addr)(n cp:Nat)(hC:A4 C 16)(hv:Sl w0 1 (.slice ad n cp) n (S.map (Value.int .i64)))(hn:n≤9223372036854775807)(c:List Int)(ad2:Option Addr)(n2 cp2:Nat)(hv2:Sl w0 1 (.slice ad2 n2 cp2) n2 (c.map (Value.int .i64)))(hn2:n2≤9223372036854775807):
 Calls Tryz.prog 54 #[tv C (.slice ad n cp), .slice ad2 n2 cp2] w0 fun e w=>e= .returned (.tuple #[.int .i64 (D5 C S c), .int .i64 (CN C S c)])∧AP w0 w:=by
 have hS:=St.start w0
 have hcl:c.length=n2:=by have:=hv2.1;simpa using this
 have HW:=AC (fun (w:World)(hE:AP w0 w)=>ME w C S ad n cp hC (hv.ext hE) hn)
 have HCK:=AC (fun (w:World)(hE:AP w0 w)=>EC w c ad2 n2 cp2 (hv2.ext hE) hn2)
 obtain ⟨E,hE⟩:∃E,BL C S=E:=⟨_,rfl⟩
 obtain ⟨B,hB⟩:∃B,bE c=B:=⟨_,rfl⟩
 by_cases h0:E=0
 ·subst h0
  by_cases h1:B=0
  ·subst h1
   have HE:=AC hE
   have HB:=AC hB
   have HL:=AC (Io C S (DN hE).2.1)
   obtain ⟨L,hL⟩:∃L,CA C S=L:=⟨_,rfl⟩
   have H16:=AC (fun s:Int=>show lw L s≤16 by rw [←hL];by_cases h:s∈S;exact ((EH hE s).1 h).2;rw [(EH hE s).2 h];omega)
   have HPOS:=AC (fun (s:Int)(y:Nat×Nat)(h:symW L s=some y)=>show 1≤lw L s by
    rw [←hL] at h⊢
    have h2:=(GZ hE).long _ (El h)
    have h3:=(IY hE (El h)).2
    dsimp only at h2 h3
    omega)
   have hl256:=(DN hE).2.2.1
   have hLl:L.length=S.length:=by rw [←hL];exact HL.out
   have hL256:L.length≤256:=by omega
   have hc2:n2≤256∧∀i,i<n2→0≤AG c i∧AG c i≤9999:=by
    unfold bE at hB
    rw [hcl] at hB
    by_cases h:256<n2
    ·rw [if_pos h] at hB;cases hB
    rw [if_neg h] at hB
    by_cases h2:BM c 0 9999=true
    ·exact ⟨by omega,fun i hi=>(BV c 0 9999).1 h2 i (by omega)⟩
    rw [if_neg h2] at hB;cases hB
   obtain ⟨hn3,hc⟩:=hc2
   have HC:=AC hc
   have HRES:Hid (CN C S c=if CK c n2 L then 5 else 0):=AC (by unfold CN;rw [HE.out,HB.out,hcl,hL];rfl)
   have HRES2:Hid (∀b,CK c n2 L=b→D5 C S c=if b then 0 else Av c n2 (lw L)):=AC (fun b hb=>by
    unfold D5;rw [HRES.out,hb,hcl,hL];cases b<;>rfl)
   have HWL:Hid (EB w0 C S=EB w0 C S):=AC rfl
   have HLL:=AC hL
   have HLN:=AC hLl
   clear hE hB hL hl256 hLl hc
   go_enter Tryz.func54,Tryz.ntmps54
   repeat' (first
    | (refine AH 16 ?_);refine Ac (f:=77) Tryz.call77 AA ?_;refine ⟨_,(HW.out _ hS.1),?_⟩;rintro e w ⟨a2,n3,c3,hn4,rfl,hS2⟩;rw [if_pos HE.out] at hn4 hS2;rw [HE.out,HLL.out] at*;rw [←HLN.out] at hn4;subst hn4;replace hS:=hS.call1 hS2;clear hS2;refine A2 ?_;go_step|refine X0 ?_|refine X9 ?_|refine RT ?_|refine Mj 2 ?_;clear hS;intro g2 w hS|refine OH ?_|refine AF ?_;go_step|fail)
   repeat' (first
    | (refine AH 22 ?_);refine Ac (f:=72) Tryz.call72 AA ?_;refine ⟨_,(HCK.out _ hS.1),?_⟩;rintro e w ⟨rfl,hE2⟩;rw [HB.out];replace hS:=hS.ext hE2;clear hE2;refine A2 ?_;go_step|refine X0 ?_|refine LA ?_|(refine AH 26 ?_);(refine At ?_;apply DQ (o:=⟨some 26,_,_,_,_,_⟩) ik hS 115 rfl;clear hS;intro g26 w hS;refine AB ?_;go_step)|refine AF ?_;go_step|fail)
   obtain ⟨m,hm⟩:∃m,L.length=m:=⟨_,rfl⟩
   have HM:=AC hm
   rw [hm] at hS hL256
   try rw [hm]
   clear hm
   repeat' (first
    | refine X1 ?_|(with_reducible refine Ap _ (.call ⟨.builtin .len,_,_⟩) ?_);(refine AR AA (V.len Tryz.underlying116 rfl) ?_;go_step)|refine AF ?_;go_step|fail)
   go_loopg [29] m (fun gk kv w=>∃(i:Nat),gk+i=m∧kv= .int .i64 i∧St w0 w [own 120 3 a2 m c3 ((KX L).map (Value.int .i64)),mp ik g26 (OK (L.take i)),prt g2 [.ints C, .val (.slice ad n cp)]])
   case atStart=>exact ⟨0,rfl,rfl,(by rw [show OK (L.take 0)=fun _=>none from rfl];exact hS.sub Ad)⟩
   case round=>
    clear hS
    obtain ⟨i,hi,rfl,hS⟩:=hrel
    by_cases hlt:i<m
    ·obtain ⟨b2,rfl⟩:=Bb hS AQ (by omega)
     obtain ⟨⟨s,l,k⟩,hx⟩:∃x,L[i]? =some x:=⟨_,List.getElem?_eq_getElem (by rw [HM.out];exact hlt)⟩
     have hseg:=K4 L i _ hx
     dsimp only at hseg
     have ht:L.take (i+1)=L.take i++[(s,l,k)]:=by rw [List.take_add_one,hx];rfl
     have H1:=AC (NL (L.take i) s l k)
     rw [←ht] at H1
     clear hx ht
     repeat' (first
      | refine X1 ?_|refine X2 ?_|(refine AH 31 ?_);(refine AR AA (V.indexSl Tryz.underlying116 Pt rfl rfl BY (by omega) rfl Bj) ?_;go_step)|(with_reducible refine Ap _ (.fieldAddr 120 _ 0) ?_);(refine AR AA (V.fieldAddr Om rfl Bj) ?_;go_step)|(with_reducible refine Ap _ (.fieldAddr 120 _ 1) ?_);(refine AR AA (V.fieldAddr On rfl Bj) ?_;go_step)|refine X4 ?_|(with_reducible refine Ap _ (.load 120 _) ?_);(refine At ?_;apply Gc hS 120 _ rfl _ _ rfl 3 (Aj rfl) _ _ _ _ _;(case hp=>exact AQ);(case hi=>omega);(case hl'=>with_reducible assumption);refine AB ?_;go_step)|(refine AH 10 ?_);(refine At ?_;apply Cf (o:=⟨some 10,_,_,_,_,_⟩) hS 120 rfl (.agg #[.int .i64 0, .int .i64 0, .int .i64 0]) [.int .i64 0, .int .i64 0, .int .i64 0] (fun w=>Tryz.zeroValue120 w) rfl;clear hS;intro g10 w hS;refine AB ?_;go_step)|(with_reducible refine Ap _ (.store 120 _ _) ?_);(refine At ?_;apply CW hS 120 _ _ rfl _ rfl 3 (Aj rfl) _ _;(case hp=>exact AQ);(case hy=>rfl);(case hn=>rfl);(case hn'=>rfl);(case hv=>rfl);(case hd=>exact rfl);clear hS;intro w hS)|refine Q6 ?_|refine RO ?_;clear hS;intro w hS|refine AF ?_;go_step|fail)
     go_roundg (gk-1)
     case measure=>omega
     case rel=>
      refine ⟨i+1,by omega,by go_num,?_⟩
      rw [←H1.out]
      exact hS.sub Ad
    obtain rfl:i=m:=by omega
    rw [show L.take i=L by rw [←HM.out];exact List.take_length] at hS
    repeat' (first
     | refine X0 ?_|refine X2 ?_|refine Q3 ?_|refine AF ?_;go_step|fail)
    clear hlt hi
    go_loopg [11,41] n2 (fun gk av kv w=>∃(i:Nat) (A:Int),gk+i=n2∧kv= .int .i64 i∧av= .int .i64 A∧Hid (A=Av c i (lw L))∧Hid (CK c i L=false)∧St w0 w [mp ik g26 (OK L),prt g2 [.ints C, .val (.slice ad n cp)]])
    case atStart=>exact ⟨0,0,rfl,rfl,rfl,AC rfl,AC rfl,hS.sub Ad⟩
    case round=>
     clear hS
     obtain ⟨i,A,hi,rfl,rfl,HA,HN,hS⟩:=hrel
     by_cases hlt:i<n2
     ·have hci:=HC.out i hlt
      have hbd:=I7 (l:=lw L) (n:=i) (fun j hj=>HC.out j (by omega)) H16.out
      rw [←HA.out] at hbd
      obtain ⟨x,hx⟩:∃x,AG c i=x:=⟨_,rfl⟩
      have HX:=AC hx
      clear hv
      rw [hx] at hci
      have HS1:=AC (Fq c i (lw L))
      have HN1:=AC (JR c i L)
      rw [hx] at HS1 HN1
      rcases hw:symW L (i:Int) with _|y
      ·obtain ⟨hf,hl0⟩:=NK hw
       have HL0:=AC hl0
       clear hl0 hw
       by_cases hx0:0<x
       ·have HNB:=AC (JQ c L (show i+1≤n2 by omega) (by rw [HN1.out,HL0.out];simp [hx0]))
        clear hx
        repeat' (first
         | refine X0 ?_|refine X2 ?_|refine QA 44 ?_;intro b44 o44 hc44;go_step|refine OF ?_|refine AF ?_;go_step|fail)
        rw [HX.out]
        repeat' (first
         | refine X0 ?_|refine X7 ?_|(refine AH 47 ?_);(refine BX _ (V.gtr rfl rfl) AA (fun hB=>?_) (fun hB=>?_)<;>(try exact AU)<;>go_step)|refine K9 ?_|refine RZ 51 ?_|refine AF ?_;go_step|fail)
        have HR1:=HRES.out
        have HR2:=HRES2.out _ HNB.out
        rw [HNB.out] at HR1
        refine AJ (xs:=[_,_]) rfl (.cons (AD.tmp rfl) (.cons (AD.tmp rfl) (.nil))) (by simp) rfl ?_
        refine ⟨?_,hS.1⟩
        rw [HR1,HR2]
        rfl
       obtain rfl:x=0:=by omega
       clear hx
       repeat' (first
        | refine X0 ?_|refine X2 ?_|refine QA 44 ?_;intro b44 o44 hc44;go_step|refine OF ?_|refine AF ?_;go_step|fail)
       rw [HX.out]
       repeat' (first
        | go_big_skip|((first|(with_reducible refine Gj ?_)|(with_reducible refine MT ?_));(first|go_big_want|go_step);go_step)|((with_reducible refine Ap _ (.pick _ _ _) ?_);(refine Af rfl AA ?_;go_step))|((refine AH 47 ?_);(refine BX _ (V.gtr rfl rfl) AA (fun hB=>?_) (fun hB=>?_)<;>(try exact AU)<;>go_step))|((with_reducible refine Ap _ (.binOp .mul _ _ _ _) ?_);(refine AR AA (V.mulI rfl rfl (by omega)) ?_;go_step))|((with_reducible refine Ap _ (.binOp .add _ _ _ _) ?_);(refine AR AA (V.addI rfl rfl (by omega)) ?_;go_step))|((refine AH 58 ?_);(refine At ?_;apply ER (enc:=ik) hS 115 _ _ rfl _ rfl _ rfl Tryz.underlying115 (BD Tryz.underlying3) (.int .i64 0) (fun w=>Tryz.zeroValue3 w) _;(case hp=>exact AQ);(case hf=>with_reducible assumption);refine AB ?_;go_step))|(refine AF ?_;go_step)|fail)
       go_roundg (gk-1)
       case measure=>omega
       case rel=>
        refine ⟨i+1,_,by omega,by go_num,rfl,?_,?_,hS.sub Ad⟩
        ·exact AC (by rw [HS1.out,←HA.out];omega)
        exact AC (by rw [HN1.out,HN.out];simp)
      have hf:=NM hw
      have h16:=H16.out (i:Int)
      have hpos:=HPOS.out _ _ hw
      obtain ⟨z,hz⟩:∃z,lw L (i:Int)=z:=⟨_,rfl⟩
      rw [hz] at hf h16 hpos HS1 HN1
      clear hz hw hx
      have hmul:0≤x*z∧x*z≤9999*16:=⟨Int.mul_nonneg hci.1 (by omega),Int.mul_le_mul hci.2 (by omega) (by omega) (by omega)⟩
      repeat' (first
       | refine X0 ?_|refine X2 ?_|refine QA 44 ?_;intro b44 o44 hc44;go_step|refine OF ?_|refine AF ?_;go_step|fail)
      rw [HX.out]
      repeat' (first
       | go_big_skip|((first|(with_reducible refine Gj ?_)|(with_reducible refine MT ?_));(first|go_big_want|go_step);go_step)|((with_reducible refine Ap _ (.pick _ _ _) ?_);first|(refine Al rfl AA ?_;go_step)|(refine Af rfl AA ?_;go_step))|((refine AH 47 ?_);(refine BX _ (V.gtr rfl rfl) AA (fun hB=>?_) (fun hB=>?_)<;>(try exact AU)<;>go_step))|((with_reducible refine Ap _ (.binOp .eql 3 _ _ _) ?_);(refine AR AA (V.eql rfl rfl) ?_;go_step))|((with_reducible refine Ap _ (.binOp .mul _ _ _ _) ?_);(refine AR AA (V.mulI rfl rfl (by omega)) ?_;go_step))|((with_reducible refine Ap _ (.binOp .add _ _ _ _) ?_);(refine AR AA (V.addI rfl rfl (by omega)) ?_;go_step))|((refine AH 51 ?_);(refine At ?_;apply DP (enc:=ik) hS 115 _ _ rfl _ rfl _ rfl Tryz.underlying115 (BD Tryz.underlying3) (.int .i64 0) (fun w=>Tryz.zeroValue3 w) _;(case hp=>exact AQ);(case hf=>with_reducible assumption);refine AB ?_;go_step))|((refine AH 58 ?_);(refine At ?_;apply DP (enc:=ik) hS 115 _ _ rfl _ rfl _ rfl Tryz.underlying115 (BD Tryz.underlying3) (.int .i64 0) (fun w=>Tryz.zeroValue3 w) _;(case hp=>exact AQ);(case hf=>with_reducible assumption);refine AB ?_;go_step))|(refine AF ?_;go_step)|fail)
      all_goals
       go_roundg (gk-1)
       case measure=>omega
       case rel=>
        refine ⟨i+1,_,by omega,by go_num,rfl,?_,?_,hS.sub Ad⟩
        ·exact AC (by rw [HS1.out,←HA.out])
        exact AC (by rw [HN1.out,HN.out];simp;omega)
     obtain rfl:i=n2:=by omega
     repeat' (first
      | refine X0 ?_|refine X2 ?_|refine AF ?_;go_step|fail)
     have HR1:=HRES.out
     have HR2:=HRES2.out _ HN.out
     rw [HN.out] at HR1
     refine AJ (xs:=[_,_]) rfl (.cons (AD.tmp rfl) (.cons (AD.tmp rfl) (.nil))) (by simp) rfl ?_
     refine ⟨?_,hS.1⟩
     rw [HR1,HR2,HA.out]
     rfl
  have HE:=AC hE
  have HB:=AC hB
  have HH:=AC (show CN C S c=B∧D5 C S c=0 by
   have e:CN C S c=B:=by unfold CN;rw [if_neg (by rw [hE];omega),if_pos (by rw [hB];exact h1),hB]
   exact ⟨e,by unfold D5;rw [e,if_neg h1]⟩)
  clear hE hB
  go_enter Tryz.func54,Tryz.ntmps54
  repeat' (first
   | (refine AH 16 ?_);refine Ac (f:=77) Tryz.call77 AA ?_;refine ⟨_,(HW.out _ hS.1),?_⟩;rintro e w ⟨a2,n3,c3,hn4,rfl,hS2⟩;rw [HE.out];replace hS:=St.of_ext (hS.call1 hS2).1;clear hS2 hn4;refine A2 ?_;go_step|refine X0 ?_|refine X9 ?_|refine RT ?_|refine Mj 2 ?_;clear hS;intro g2 w hS|refine OH ?_|refine AF ?_;go_step|fail)
  repeat' (first
   | (refine AH 22 ?_);refine Ac (f:=72) Tryz.call72 AA ?_;refine ⟨_,(HCK.out _ hS.1),?_⟩;rintro e w ⟨rfl,hE2⟩;rw [HB.out];replace hS:=hS.ext hE2;clear hE2;refine A2 ?_;go_step|refine X0 ?_|refine LA ?_|refine AF ?_;go_step|fail)
  refine AJ (xs:=[_,_]) rfl (.cons (AD.tmp rfl) (.cons (AD.tmp rfl) (.nil))) (by simp) rfl ?_
  refine ⟨?_,hS.1⟩
  rw [HH.out.1,HH.out.2]
  rfl
 have HE:=AC hE
 have HH:=AC (show CN C S c=E∧D5 C S c=0 by
  have e:CN C S c=E:=by unfold CN;rw [if_pos (by rw [hE];exact h0),hE]
  exact ⟨e,by unfold D5;rw [e,if_neg h0]⟩)
 clear hE hB
 go_enter Tryz.func54,Tryz.ntmps54
 repeat' (first
  | (refine AH 16 ?_);refine Ac (f:=77) Tryz.call77 AA ?_;refine ⟨_,(HW.out _ hS.1),?_⟩;rintro e w ⟨a2,n3,c3,hn4,rfl,hS2⟩;rw [HE.out];replace hS:=St.of_ext (hS.call1 hS2).1;clear hS2 hn4;refine A2 ?_;go_step|refine X0 ?_|refine X9 ?_|refine RT ?_|refine LA ?_|refine Mj 2 ?_;clear hS;intro g2 w hS|refine OH ?_|refine AF ?_;go_step|fail)
 refine AJ (xs:=[_,_]) rfl (.cons (AD.tmp rfl) (.cons (AD.tmp rfl) (.nil))) (by simp) rfl ?_
 refine ⟨?_,hS.1⟩
 rw [HH.out.1,HH.out.2]
 rfl
structure Mk(c:List Int)(n:Nat)(C S:List Int):Prop where
 len:A4 C 16
 ok:BL C S=0
 mem:∀s,s∈S↔s∈A6 c n
 slen:S.length=(A6 c n).length
 best:∀l,G4 c n l→Av c n (lw (CA C S))≤Av c n l
 order:∀a b,a∈A6 c n→b∈A6 c n→AG c b.toNat<AG c a.toNat→lw (CA C S) a≤lw (CA C S) b
 lens:G4 c n (lw (CA C S))
theorem I8(c:List Int)(n:Nat)(f g:Int→Nat)(h:∀s:Int,0≤s→s<n→f s=g s):Av c n f=Av c n g:=by
 unfold Av
 refine Cb _ _ _ fun s hs=>?_
 rw [h s (by omega) (by have:=List.mem_range.1 hs;omega)]
theorem QS{c:List Int}(h:bE c=0):c.length≤256∧∀i,i<c.length→0≤AG c i∧AG c i≤9999:=by
 unfold bE at h
 by_cases h1:256<c.length
 ·rw [if_pos h1] at h;cases h
 rw [if_neg h1] at h
 by_cases h2:BM c 0 9999=true
 ·exact ⟨by omega,(BV c 0 9999).1 h2⟩
 rw [if_neg h2] at h;cases h
theorem Lh(w0:World)(c:List Int)(ad:Option Addr)(n cap:Nat)(hv:Sl w0 1 (.slice ad n cap) n (c.map (Value.int .i64)))(hn:n≤9223372036854775807)(hok:bE c=0):
 Calls Tryz.prog 53 #[.slice ad n cap] w0 fun e w=>∃(C S:List Int) (ao:Option Addr) (co:Nat),Mk c n C S∧e= .returned (.tuple #[tv C (.slice ao S.length co), .int .i64 0])∧St w0 w [own 3 1 ao S.length co (S.map (Value.int .i64))]:=by
 refine (NT w0 c ad n cap hv hn hok).mono ?_
 rintro e w ⟨f,R,C,S,ao,co,hR,hf,hC,hCi,hSy,rfl,hS⟩
 have hcl:c.length=n:=by have:=hv.1;simpa using this
 obtain ⟨b1,b2⟩:=QS hok
 rw [hcl] at b1 b2
 obtain ⟨m1,m2,m3,m4,m5⟩:=NR b1 (fun i hi=>(b2 i hi).1) hR f hf
 obtain ⟨t1,t2,t3,t4⟩:=J8 b1 m1 m2 m3 hCi hSy
 have hin:∀s∈A6 c n,0≤s∧s<n:=fun s hs=>by have:=(Aw c n s).1 hs;exact ⟨this.1,this.2.1⟩
 have hcost:Av c n (lw (CA C S))=Av c n f:=I8 _ _ _ _ t2
 refine ⟨C,S,ao,co,⟨hC,t1,t4,t3,fun l hl=>by rw [hcost];exact m4 l hl,fun a b ha hb h=>?_,L5 t1 c n fun s hs=>(t4 s).2 hs⟩,rfl,hS⟩
 rw [t2 a (hin a ha).1 (hin a ha).2,t2 b (hin b hb).1 (hin b hb).2]
 exact m5 a b ha hb h
theorem Ll{C S c:List Int}{n:Nat}(h:BL C S=0)(hall:∀s∈A6 c n,s∈S):CK c n (CA C S)=false:=by
 unfold CK
 rw [List.any_eq_false]
 intro i hi h2
 simp at h2
 have h3:(i:Int)∈A6 c n:=(Aw c n i).2 ⟨by omega,by have:=List.mem_range.1 hi;omega,by simpa using h2.1⟩
 have:=((EH h (i:Int)).1 (hall _ h3)).1
 omega
theorem LR{c C S:List Int}{n:Nat}(hm:Mk c n C S)(hcl:c.length=n)(hok:bE c=0):CN C S c=0∧D5 C S c=Av c n (lw (CA C S)):=by
 have e:CN C S c=0:=by
  unfold CN
  rw [if_neg (by rw [hm.ok];decide),if_neg (by rw [hok];decide),hcl,Ll hm.ok fun s hs=>(hm.mem s).2 hs]
  rfl
 exact ⟨e,by unfold D5;rw [if_pos e,hcl]⟩
theorem LO{c C S:List Int}(h:bE c≠0)(hc:BL C S=0):CN C S c=bE c:=by
 unfold CN;rw [if_neg (by rw [hc];decide),if_pos h]
theorem Ju(w:World):(Instr.build 85 #[]).run Tryz.prog w= .ok (tv (List.replicate 16 0) (.slice none 0 0)) w:=by kernel_rfl
theorem NU(w0:World)(c:List Int)(ad:Option Addr)(n cap:Nat)(hv:Sl w0 1 (.slice ad n cap) n (c.map (Value.int .i64)))(hn:n≤9223372036854775807)(hbad:bE c≠0):
 Calls Tryz.prog 53 #[.slice ad n cap] w0 fun e w=>e= .returned (.tuple #[tv (List.replicate 16 0) (.slice none 0 0), .int .i64 (bE c)])∧AP w0 w:=by
 have hS:=St.start w0
 have HCK:=AC (fun (w:World)(hE:AP w0 w)=>EC w c ad n cap (hv.ext hE) hn)
 obtain ⟨B,hB⟩:∃B,bE c=B:=⟨_,rfl⟩
 rw [hB] at HCK hbad⊢
 clear hB
 go_enter Tryz.func53,Tryz.ntmps53
 repeat' (first
  | (refine Ar 72 ?_);refine As AA Tryz.call72 (HCK.out _ hS.1) (C9 hS ?_);clear hS;intro w hS;go_step|refine X0 ?_|refine OI 22 ?_|refine QP 2 ?_;clear hS;intro g2 w hS|refine AF ?_;go_step|fail)
 repeat' (first
  | (refine AH 23 ?_);refine AR AA (V.build (vs:=[]) rfl Ju) ?_;go_step|refine X0 ?_|refine Qx ?_;clear hS;intro w hS|refine AF ?_;go_step|fail)
 refine AJ (xs:=[_,_]) rfl (.cons (AD.prt hS rfl (Aj (n:=17) rfl) AQ (by (repeat (first|exact FF.nil|(apply FF.ints;(case hn=>exact Gi);(case h=>omega);(case hm=>rfl))|apply FF.val)))) (.cons (AD.tmp rfl) (.nil))) (by simp) rfl ?_
 exact ⟨rfl,hS.1⟩
theorem N6:A4 (List.replicate 16 (0:Int)) 16:=List.length_replicate
theorem N7:BL (List.replicate 16 0) []=0:=by decide
theorem Lg(w0:World)(c:List Int)(ad:Option Addr)(n cap:Nat)(hv:Sl w0 1 (.slice ad n cap) n (c.map (Value.int .i64)))(hn:n≤9223372036854775807):
 Calls Tryz.prog 53 #[.slice ad n cap] w0 fun e w=>∃(C S:List Int) (ao:Option Addr) (m co:Nat),A4 C 16∧S.length=m∧m≤256∧BL C S=0∧(bE c=0→Mk c n C S)∧e= .returned (.tuple #[tv C (.slice ao m co), .int .i64 (bE c)])∧St w0 w [own 3 1 ao m co (S.map (Value.int .i64))]:=by
 by_cases hb:bE c=0
 ·refine (Lh w0 c ad n cap hv hn hb).mono ?_
  rintro e w ⟨C,S,ao,co,hM,rfl,hS⟩
  exact ⟨C,S,ao,S.length,co,hM.len,rfl,(DN hM.ok).2.2.1,hM.ok,fun _=>hM,by rw [hb],hS⟩
 refine (NU w0 c ad n cap hv hn hb).mono ?_
 rintro e w ⟨rfl,hE⟩
 exact ⟨_,[],none,0,0,N6,rfl,by omega,N7,fun h=>absurd h hb,rfl,(St.of_ext hE).nil _ _⟩
theorem LQ{c C S:List Int}{n:Nat}(h:bE c=0→Mk c n C S)(hC:BL C S=0)(hcl:c.length=n):CN C S c=bE c∧(bE c=0→D5 C S c=Av c n (lw (CA C S))):=by
 by_cases hb:bE c=0
 ·have:=LR (h hb) hcl hb
  exact ⟨by rw [this.1,hb],fun _=>this.2⟩
 exact ⟨LO hb hC,fun h=>absurd h hb⟩
structure Dk where
 b:List Int
 q:List Int
def Bd(m:Int)(l:List Int):Prop:=∀i,i<l.length→ -m≤AG l i∧AG l i≤m
structure Dk.ok(D:Dk):Prop where
 b:A4 D.b 64
 q:A4 D.q 64
 r:Bd 40000 D.b
def Aa(n:Int):ByteArray:=⟨(Lib.itoa n).toArray⟩
def BN(l:List Int):ByteArray:=if l.length=0 then ⟨#[45]⟩ else ⟨(Lib.join ((l.map Aa).map (·.data.toList)) [32]).toArray⟩
def H3(s:ByteArray):ByteArray:=⟨(Lib.trimPrefix s.data.toList [45]).toArray⟩
def D1(s:ByteArray):Option Int:=match Lib.atoiAll s.data.toList with
 | .ok n=>if Aa n=s∧(H3 s).size≤9 then some n else none
 | _=>none
def DE(l:List Int):List Int:=l.map fun n=>min (max n (-40000)) 40000
def nl:ByteArray:=⟨#[]⟩
def Jp:ByteArray:=⟨#[111,107]⟩
def I5(D:Dk)(R:List Int)(E:Int):(ByteArray×Int)×Dk:=if E≠0 then ((nl,E),D) else ((Jp,0),⟨DE R,D.q⟩)
def EL(D:Dk)(n:List Int):(ByteArray×Int)×Dk:=
 if AG n 0<0∨63<AG n 0 then ((nl,5),D) else if AG n 1< -40000∨40000<AG n 1 then ((nl,1),D) else ((Jp,0),⟨D.b.set (AG n 0).toNat (AG n 1),D.q⟩)
def BC(D:Dk)(n:List Int):(ByteArray×Int)×Dk:=if KC (List.replicate 64 (AG n 0)) then ((Jp,0),⟨D.b,List.replicate 64 (AG n 0)⟩) else ((nl,1),D)
def DM(n:Int):ByteArray×Int:=if -4096<n∧n<4096 then (BN [(sz n:Int),sv n],0) else (BN [0,0],1)
def BB(x:Int):Bool:=decide (0≤x)&&decide (x≤255)
def C6(f1 f2 f3:Int→Int→Int→Int)(x y z:Int):ByteArray×Int:=if BB x&&BB y&&BB z then (BN [f1 x y z,f2 x y z,f3 x y z],0) else (BN [0,0,0],1)
def D3(bst:List Int→Int)(n:List Int):ByteArray×Int:=if bE n≠0 then (nl,bE n) else (BN [bst n],0)
inductive FP
 | kSet|kCoarse|kShow|kTokens|kWave|kBack|kDown|kUp|kSize|kTint|kPlain|kBest
def FP.many:FP→Int
 | .kSet=>2| .kCoarse=>1| .kShow=>0| .kTokens=>0| .kWave=>0| .kBack=>0| .kDown=>0| .kUp=>0| .kSize=>1| .kTint=>3| .kPlain=>3| .kBest=> -1
def DZ(bst:List Int→Int)(c:FP)(D:Dk)(n:List Int):(ByteArray×Int)×Dk:=match c with
 | .kSet=>EL D n
 | .kCoarse=>BC D n
 | .kShow=>((BN (D.b.take 8),0),D)
 | .kTokens=>((BN ((EP 0 D.b).map (·.1)),Eo 0 D.b),D)
 | .kWave=>I5 D (RL D.b) (N5 D.b)
 | .kBack=>I5 D (K1 D.b) (N5 D.b)
 | .kDown=>I5 D (CF D.b D.q) (EY D.b D.q)
 | .kUp=>I5 D (It D.b D.q) (MX D.b D.q)
 | .kSize=>(DM (AG n 0),D)
 | .kTint=>(C6 Pb PZ Pa (AG n 0) (AG n 1) (AG n 2),D)
 | .kPlain=>(C6 Fz Fy Fx (AG n 0) (AG n 1) (AG n 2),D)
 | .kBest=>(D3 bst n,D)
def Da(s:ByteArray):Option FP:=
 if s=⟨#[98,101,115,116]⟩ then some .kBest
 else if s=⟨#[112,108,97,105,110]⟩ then some .kPlain
 else if s=⟨#[116,105,110,116]⟩ then some .kTint
 else if s=⟨#[115,105,122,101]⟩ then some .kSize
 else if s=⟨#[117,112]⟩ then some .kUp
 else if s=⟨#[100,111,119,110]⟩ then some .kDown
 else if s=⟨#[98,97,99,107]⟩ then some .kBack
 else if s=⟨#[119,97,118,101]⟩ then some .kWave
 else if s=⟨#[116,111,107,101,110,115]⟩ then some .kTokens
 else if s=⟨#[115,104,111,119]⟩ then some .kShow
 else if s=⟨#[99,111,97,114,115,101]⟩ then some .kCoarse
 else if s=⟨#[115,101,116]⟩ then some .kSet
 else none
def Bk:List ByteArray→Option (List Int)
 | []=>some []
 | s::r=>match D1 s with
   | none=>none
   | some n=>(Bk r).map (n:: ·)
def CJ(m:Int)(k:Nat):Bool:=decide ((k:Int)=m)||(decide (m<0)&&decide (1≤k))
def Aq(s:ByteArray):List ByteArray:=Lib.goFieldsP (fun c=>decide (c=32)) s
def Am(bst:List Int→Int)(D:Dk)(s:ByteArray):(ByteArray×Int)×Dk:=match Aq s with
 | []=>((nl,4),D)
 | w::ws=>match Da w with
   | none=>((nl,4),D)
   | some c=>if CJ c.many ws.length then (match Bk ws with
     | none=>((nl,4),D)
     | some n=>DZ bst c D n) else ((nl,4),D)
def E5(e:Int):ByteArray:=⟨#[101,114,114,111,114,32]⟩++Aa e
def Fj(r:(ByteArray×Int)×Dk):ByteArray:=if r.1.2≠0 then E5 r.1.2 else r.1.1
def Bq(bst:List Int→Int):Dk→List ByteArray→List ByteArray
 | _,[]=>[]
 | D,s::r=>Fj (Am bst D s)::Bq bst (Am bst D s).2 r
def Cl(bst:List Int→Int):Dk→List ByteArray→Dk
 | D,[]=>D
 | D,s::r=>Cl bst (Am bst D s).2 r
def BG:Dk:=⟨List.replicate 64 0,List.replicate 64 1⟩
theorem GM(bst:List Int→Int):∀(a b:List ByteArray)(D:Dk),Bq bst D (a++b)=Bq bst D a++Bq bst (Cl bst D a) b
 | [],_,_=>rfl
 | s::a,b,D=>by rw [List.cons_append,Bq,Bq,Cl,GM bst a b,List.cons_append]
theorem Hb(bst:List Int→Int):∀(a b:List ByteArray)(D:Dk),Cl bst D (a++b)=Cl bst (Cl bst D a) b
 | [],_,_=>rfl
 | s::a,b,D=>by rw [List.cons_append,Cl,Cl,Hb bst a b]
theorem GO(bst:List Int→Int):∀(a:List ByteArray)(D:Dk),(Bq bst D a).length=a.length
 | [],_=>rfl
 | s::a,D=>by rw [Bq,List.length_cons,List.length_cons,GO bst a]
theorem M0:BG.ok:=⟨A4.rep,A4.rep,fun i hi=>by
 have h:i<64:=by simpa [BG] using hi
 show -40000≤AG (List.replicate 64 (0:Int)) i∧AG (List.replicate 64 (0:Int)) i≤40000
 rw [Kt _ _ _ h];omega⟩
theorem Jt:∃bst:List Int→Int,∀c C S,Mk c c.length C S→Av c c.length (lw (CA C S))=bst c:=by
 have h:∀c:List Int,∃v:Int,∀C S,Mk c c.length C S→Av c c.length (lw (CA C S))=v:=fun c=>by
  by_cases hx:∃C S,Mk c c.length C S
  ·obtain ⟨C0,S0,h0⟩:=hx
   exact ⟨_,fun C S h1=>Int.le_antisymm (h1.best _ h0.lens) (h0.best _ h1.lens)⟩
  exact ⟨0,fun C S h1=>absurd ⟨C,S,h1⟩ hx⟩
 exact ⟨fun c=>Classical.choose (h c),fun c=>Classical.choose_spec (h c)⟩
theorem EF(l:List Int):(DE l).length=l.length:=by simp [DE]
theorem LJ(l:List Int):Bd 40000 (DE l):=fun i hi=>by
 rw [EF] at hi
 have:AG (DE l) i=min (max (AG l i) (-40000)) 40000:=by simp [DE,AG,List.getD,hi]
 rw [this];omega
theorem IJ{D:Dk}(h:D.ok){R:List Int}(hR:A4 R 64)(E:Int):(I5 D R E).2.ok:=by
 unfold I5
 split
 ·exact h
 exact ⟨by unfold A4;rw [EF];exact hR,h.q,LJ R⟩
theorem FW(D:Dk)(R:List Int)(E:Int)(h:(I5 D R E).1.2≠0):(I5 D R E).2=D:=by
 unfold I5 at h⊢
 split
 ·rfl
 rename_i h1;rw [if_neg h1] at h;exact absurd rfl h
theorem Px{l:List Int}{m x:Int}(h:Bd m l)(hx: -m≤x∧x≤m)(k:Nat):Bd m (l.set k x):=fun i hi=>by
 rw [List.length_set] at hi
 by_cases hk:k<l.length
 ·rw [Ef l k i x hk];split
  ·exact hx
  exact h i hi
 rw [List.set_eq_of_length_le (by omega)];exact h i hi
theorem Oc(bst:List Int→Int)(c:FP){D:Dk}(h:D.ok)(n:List Int):(DZ bst c D n).2.ok:=by
 cases c
 case kSet=>
  show (EL D n).2.ok
  unfold EL
  split
  ·exact h
  split
  ·exact h
  rename_i h1 h2
  exact ⟨by unfold A4;rw [List.length_set];exact h.b,h.q,Px h.r (by omega) _⟩
 case kCoarse=>
  show (BC D n).2.ok
  unfold BC
  split
  ·exact ⟨h.b,A4.rep,h.r⟩
  exact h
 case kWave=>exact IJ h (Cq _ _) _
 case kBack=>exact IJ h (Cq _ _) _
 case kDown=>exact IJ h (C2 _ _ h.b h.q) _
 case kUp=>exact IJ h (Ep _ _ h.b h.q) _
 all_goals exact h
theorem Mv(bst:List Int→Int)(c:FP)(D:Dk)(n:List Int)(he:(DZ bst c D n).1.2≠0):(DZ bst c D n).2=D:=by
 cases c
 case kSet=>
  show (EL D n).2=D
  have he:(EL D n).1.2≠0:=he
  unfold EL at he⊢
  split
  ·rfl
  rename_i h1;rw [if_neg h1] at he
  split
  ·rfl
  rename_i h2;rw [if_neg h2] at he;exact absurd rfl he
 case kCoarse=>
  show (BC D n).2=D
  have he:(BC D n).1.2≠0:=he
  unfold BC at he⊢
  split
  ·rename_i h1;rw [if_pos h1] at he;exact absurd rfl he
  rfl
 case kWave=>exact FW _ _ _ he
 case kBack=>exact FW _ _ _ he
 case kDown=>exact FW _ _ _ he
 case kUp=>exact FW _ _ _ he
 all_goals rfl
theorem NN(bst:List Int→Int){D:Dk}(h:D.ok)(s:ByteArray):(Am bst D s).2.ok:=by
 unfold Am
 split
 ·exact h
 split
 ·exact h
 split
 ·split
  ·exact h
  exact Oc bst _ h _
 exact h
theorem Ld(bst:List Int→Int)(D:Dk)(s:ByteArray):(Am bst D s).1.2≠0→(Am bst D s).2=D:=by
 unfold Am
 split
 ·intro _;rfl
 split
 ·intro _;rfl
 split
 ·split
  ·intro _;rfl
  exact Mv bst _ _ _
 intro _;rfl
theorem GX(s r:ByteArray):(s.toList==r.toList)=decide (s=r):=by
 by_cases h:s=r
 ·subst h;simp
 rw [decide_eq_false h]
 refine beq_eq_false_iff_ne.2 fun h2=>h ?_
 rw [Go.ByteArray.toList_eq,Go.ByteArray.toList_eq] at h2
 exact ByteArray.ext (Array.toList_inj.1 h2)
section
variable{P:Program}{ty t u:TypeId}{a:Act}{x y:Operand}{s r:ByteArray}
theorem V.lenS(ht:P.underlying t=some .string)(hx:a.eval x= .string s):Bi P (.call {callee:= .builtin .len,args:=#[x],argTypes:=#[t]}) ty a (.int .i64 (s.size:Nat)):=fun d pos af g w=>by
 have e2:=run_len_string (P:=P) (w:=w) t ty s ht
 simp only [execOp,resolve,invoke,builtin,Sem.run_bind,Sem.run_pure,Result.andThen_ok,List.map_toArray,List.map_cons,List.map_nil,hx,e2]
 rfl
theorem V.eqlS(hx:a.eval x= .string s)(hy:a.eval y= .string r):Bi P (.binOp .eql t x y u) ty a (.bool (decide (s=r))):=fun d pos af g w=>by
 have e:=GX s r
 simp only [execOp,hx,hy,eqGuard_at_string,binOp,Op.stringOp]
 simp [e]
theorem V.neqS(hx:a.eval x= .string s)(hy:a.eval y= .string r):Bi P (.binOp .neq t x y u) ty a (.bool (decide (s≠r))):=fun d pos af g w=>by
 have e:=GX s r
 simp only [execOp,hx,hy,eqGuard_at_string,binOp,Op.stringOp]
 simp [e]
theorem V.eqlT(hx:a.eval x= .string s)(hy:a.eval y= .string r)(h:s=r):Bi P (.binOp .eql t x y u) ty a (.bool true):=by have:=V.eqlS (P:=P) (ty:=ty) (t:=t) (u:=u) hx hy;rwa [decide_eq_true h] at this
theorem V.eqlF(hx:a.eval x= .string s)(hy:a.eval y= .string r)(h:s≠r):Bi P (.binOp .eql t x y u) ty a (.bool false):=by have:=V.eqlS (P:=P) (ty:=ty) (t:=t) (u:=u) hx hy;rwa [decide_eq_false h] at this
theorem V.addS(hx:a.eval x= .string s)(hy:a.eval y= .string r)(h:s.size+r.size≤1000000):Bi P (.binOp .add t x y u) ty a (.string (s++r)):=fun d pos af g w=>by
 have e:(x matches .const _)=(x matches .const _):=rfl
 have e2:(Op.stringOp .add s r).run P w= .ok (.string (s++r)) w:=run_string_add_sum w s r (by omega)
 simp only [execOp,hx,hy,eqGuard,binOp_string_add,Sem.run_bind]
 simp [e2]
theorem V.nilI{ms:Array (String×TypeId)}(ht:P.underlying t=some (.interface ms))(hx:a.eval x= .nilIface):Bi P (.binOp .eql t x (.const .nilIface) u) ty a (.bool true):=fun d pos af g w=>by
 have e:(Op.equal t .nilIface .nilIface).run P w= .ok true w:=by
  unfold Op.equal Op.maxDepth;rw [show (10000:Nat)=9999+1 from rfl,Op.equalIn];simp [run_underlying ht]
 have e2:a.eval (.const .nilIface)= .nilIface:=rfl
 simp only [execOp,hx,e2,eqGuard,binOp]
 simp [e]
theorem V.notNilI{ms:Array (String×TypeId)}{d:TypeId}{v:Value}(ht:P.underlying t=some (.interface ms))(hx:a.eval x= .iface d v):Bi P (.binOp .eql t x (.const .nilIface) u) ty a (.bool false):=fun d' pos af g w=>by
 have e:(Op.equal t (.iface d v) .nilIface).run P w= .ok false w:=by
  unfold Op.equal Op.maxDepth;rw [show (10000:Nat)=9999+1 from rfl,Op.equalIn];simp [run_underlying ht]
 have e2:a.eval (.const .nilIface)= .nilIface:=rfl
 simp only [execOp,hx,e2,eqGuard,binOp]
 simp [e]
end
theorem Fm(a b:ByteArray):(a==b)=decide (a=b):=by
 cases a with
 | mk a=>cases b with
   | mk b=>
     show (a==b)=_
     by_cases h:a=b
     ·subst h;simp
     rw [decide_eq_false (fun e=>h (by injection e)),beq_eq_false_iff_ne];exact h
def sk(s:ByteArray):Value:= .string s
theorem An{P:Program}{kt:TypeId}(h:P.underlying kt=some .string):Cr P kt sk where
 check w b k:=by
  unfold sk
  rw [show (10000:Nat)=9999+1 from rfl,Instr.checkKey]
  simp [run_underlying h]
 find w k l:=by
  have key:∀(l:List (ByteArray×Value×Nat)) i,Instr.findNow .string (sk k) (l.map (Be sk)) i=some (Ab k l i):=by
   intro l
   induction l with
   | nil=>intro i;rfl
   | cons x l ih=>
     intro i
     simp only [List.map_cons,Instr.findNow,Ab,Be,sk,Instr.sameNow]
     by_cases hx:k=x.1
     ·simp [hx,Fm]
     have:(k==x.1)=false:=by rw [Fm,decide_eq_false hx]
     simp only [this,hx,if_false]
     exact ih (i+1)
  simp [Instr.findKey,run_underlying h,key]
 same k:=by
  unfold sk
  rw [show (10000:Nat)=9999+1 from rfl,Instr.sameBits]
  simp [Fm]
structure CM(w:World):Prop where
 tab:Lib.TabIs Tryz.prog w "internal/strconv.uint64pow10" .u64 Lib.pow10Tab
 syn:∃ev,w.cell? ⟨1,0,none⟩=some ev∧(ev= .nilIface∨∃te pe,ev= .iface te pe)
 rng:∃ev,w.cell? ⟨2,0,none⟩=some ev∧(ev= .nilIface∨∃te pe,ev= .iface te pe)
theorem CM.ext{w w':World}(h:CM w)(hE:AP w w'):CM w':=by
 refine ⟨?_,h.syn.imp fun ev x=>⟨hE.cell x.1,x.2⟩,h.rng.imp fun ev x=>⟨hE.cell x.1,x.2⟩⟩
 have h1:=h.tab
 unfold Lib.TabIs World.var? at h1⊢
 rw [Option.bind_eq_some_iff] at h1⊢
 obtain ⟨g,h2,h3⟩:=h1
 refine ⟨g,h2,?_⟩
 have hg:g<w.heap.size:=by
  by_cases hg:g<w.heap.size
  ·exact hg
  rw [Array.getElem?_eq_none (by omega)] at h3;cases h3
 rw [hE.block g hg]
 exact h3
theorem NA(w:World)(k:Nat)(os:Array Obj):AP w (Sort.grow (w.drewN k) os):=⟨rfl,rfl,rfl,by simp [Sort.grow,World.drewN],fun i hi=>by show (w.heap++os)[i]? =w.heap[i]?;exact Array.getElem?_append_left hi⟩
theorem BW{w:World}{ad:Option Addr}{n c:Nat}{cs:List Value}(hv:Sl w 1 (.slice ad n c) n cs)(hn:0<n):∃b off,ad=some ⟨b,off,none⟩∧∀k v,cs[k]? =some v→w.cell? ⟨b,off+k,none⟩=some v:=by
 obtain ⟨hl,a1,c1,e1,hnc,hcm,hor⟩:=hv
 cases e1
 rcases hor with h0|⟨b,off,rfl,hc⟩
 ·omega
 refine ⟨b,off,rfl,fun k v hk=>?_⟩
 rw [hc k (by rw [←hl];exact (List.getElem?_eq_some_iff.1 hk).1),hk]
theorem Np{w:World}{ad:Option Addr}{n c:Nat}{l:List Int}(hv:Sl w 1 (.slice ad n c) n (l.map (Value.int .i64)))(hn:0<n):∃b off,ad=some ⟨b,off,none⟩∧∀k,k<n→w.cell? ⟨b,off+k,none⟩=some (.int .i64 (AG l k)):=by
 have hl:l.length=n:=by have:=hv.1;simpa using this
 obtain ⟨b,off,e,h⟩:=BW hv hn
 refine ⟨b,off,e,fun k hk=>h k _ ?_⟩
 have hk:k<l.length:=by omega
 simp [AG,List.getD,hk]
theorem F6(w:World)(n:Int)(h0: -9223372036854775808≤n∧n≤9223372036854775807)(hL:CM w):Calls Tryz.prog 11 #[.int .i64 n] w fun e w'=>e= .returned (.string (Aa n))∧AP w w':=by
 refine (Tryz.strconv_Itoa n h0.1 h0.2 w hL.tab).mono fun e w' ⟨h,k,os,h2⟩=>⟨h,?_⟩
 subst h2
 exact NA w k os
theorem Nw(w:World)(s:ByteArray):Calls Tryz.prog 36 #[.string s, .string ⟨#[45]⟩] w fun e w'=>e= .returned (.string (H3 s))∧AP w w':=by
 refine (Tryz.strings_TrimPrefix s ⟨#[45]⟩ w).mono fun e w' ⟨h,h2⟩=>⟨h,h2▸ AP.refl _⟩
theorem I1(w:World)(s:ByteArray)(hs:s.size≤300)(hL:CM w):Calls Tryz.prog 35 #[.string s] w fun e w'=>(∀n,Lib.atoiAll s.data.toList= .ok n→e= .returned (.tuple #[.int .i64 n, .nilIface])∧AP w w')∧
 ((∀n,Lib.atoiAll s.data.toList≠ .ok n)→∃n t N,e= .returned (.tuple #[.int .i64 n, .iface t (.pointer (some ⟨N,0,none⟩))])∧AP w w'):=by
 cases hA:Lib.atoiAll s.data.toList with
 | ok v=>
   refine (Tryz.strconv_Atoi_ok s (by omega) v hA w).mono fun e w' ⟨h,h2⟩=>⟨fun n hn=>?_,fun hn=>absurd rfl (hn v)⟩
   cases hn
   refine ⟨h,?_⟩
   rcases h2 with rfl|⟨t,rfl⟩
   ·exact AP.refl _
   exact Lib.bytesWorld_below _ _ _
 | «syntax»=>
   obtain ⟨ev,h1,h2⟩:=hL.syn
   exact (Tryz.strconv_Atoi_syntax s (by omega) hA ev w h1 h2).mono fun e w' ⟨N,h,_,_,hb⟩=>⟨fun n hn=>(by cases hn),fun _=>⟨_,_,N,h,hb⟩⟩
 | range=>
   obtain ⟨ev,h1,h2⟩:=hL.rng
   exact (Tryz.strconv_Atoi_range s (by omega) hA ev w h1 h2).mono fun e w' ⟨N,h,_,_,hb⟩=>⟨fun n hn=>(by cases hn),fun _=>⟨_,_,N,h,hb⟩⟩
theorem NI(w:World)(bk o c:Nat)(xs:List ByteArray)(hcells:∀(j:Nat) x,xs[j]? =some x→w.cell? ⟨bk,o+j,none⟩=some (.string x))(hbk:bk<w.heap.size)(hN:xs.length≤1000000)(hcap:xs.length≤c)(hl:∀x∈xs,x.size≤1000000):
 Calls Tryz.prog 63 #[.slice (some ⟨bk,o,none⟩) xs.length c, .string ⟨#[32]⟩] w fun e w'=>e= .returned (.string ⟨(Lib.join (xs.map (·.data.toList)) [32]).toArray⟩)∧AP w w':=by
 refine (Tryz.strings_Join bk o c xs ⟨#[32]⟩ w hcells hbk (by omega) hcap ?_).mono fun e w' ⟨h,h2⟩=>⟨h,h2⟩
 have hle:Lib.lens (xs.map (·.data.toList))≤xs.length*1000000:=by
  clear hcells hN hcap
  induction xs with
  | nil=>simp [Lib.lens]
  | cons x r ih=>
    have h1:=hl x (by simp)
    have h2:=ih fun y hy=>hl y (by simp [hy])
    have h3:x.data.toList.length=x.size:=by rw [Array.length_toList];rfl
    simp only [Lib.lens,List.map_cons,List.sum_cons,List.length_cons] at h2⊢
    omega
 cases xs with
 | nil=>
   show ([]:List UInt8).length≤_
   exact Nat.zero_le _
 | cons x r=>
   rw [List.map_cons] at hle⊢
   rw [Lib.join_length]
   have h9:([32]:List UInt8).length=1:=rfl
   simp only [List.length_map,List.length_cons] at hle hN⊢
   show 1*r.length+Lib.lens (x.data.toList::List.map (fun x=>x.data.toList) r)≤_
   omega
theorem Lz(w:World)(x:Nat):Calls Tryz.prog 13 #[.int .i32 x] w fun e w'=>e= .returned (.bool (decide (x=32)))∧w'=w:=by
 go_enter Tryz.func13,Tryz.ntmps13
 repeat' (first
  | refine X0 ?_|refine Ki 4 ?_|refine AF ?_;go_step|fail)
 go_ret
 exact ⟨by rw [show decide (x=32)=decide ((x:Int)=32) by rw [Bool.eq_iff_iff];simp;omega];rfl,rfl⟩
theorem DG(w:World)(s:ByteArray)(hs:s.size≤300):Calls Tryz.prog 12 #[.string s, .func (.func 13) #[] #[]] w fun e w'=>∃A n,(Aq s).length=n∧e= .returned (.slice (some ⟨A,0,none⟩) n n)∧St w w' [own 9 1 (some ⟨A,0,none⟩) n n ((Aq s).map Value.string)]:=by
 refine (Tryz.strings_FieldsFunc 13 #[] Tryz.call13 (fun c=>decide (c=32)) s w (by omega) fun W x _=>?_).mono fun e w' ⟨A,h1,h2,h3,h4⟩=>?_
 ·exact (Lz W x).mono fun e w' ⟨h1,h2⟩=>⟨h1,0,h2⟩
 refine ⟨A,_,rfl,h1,h4,[A],by simp,fun b hb=>by rw [List.mem_singleton] at hb;omega,[A],[],rfl,⟨rfl,?_⟩,rfl⟩
 rcases h3.2 with ⟨k1,_⟩|⟨g,cap,cur,k1,k2,k3⟩
 ·cases k1
 exact ⟨h3.1, .inr ⟨g,cap,cur,k1,Nat.zero_le _,k3⟩⟩
theorem NY{s:ByteArray}{n:Int}(h:D1 s=some n): -9223372036854775808≤n∧n≤9223372036854775807:=by
 unfold D1 at h
 split at h
 ·rename_i k hk
  split at h
  ·cases h;exact Lib.atoiAll_bounds hk
  cases h
 cases h
theorem KB(w0:World)(s:ByteArray)(hs:s.size≤300)(hL:CM w0):Calls Tryz.prog 15 #[.string s] w0 fun e w=>∃n b,e= .returned (.tuple #[.int .i64 n, .bool b])∧(∀k,D1 s=some k→n=k∧b=true)∧(D1 s=none→b=false)∧AP w0 w:=by
 have hS:=St.start w0
 by_cases hA:∃n,Lib.atoiAll s.data.toList= .ok n
 ·obtain ⟨n,hA⟩:=hA
  have hn:=Lib.atoiAll_bounds hA
  have HA:=AC fun (w:World)(hx:AP w0 w)=>(I1 w s hs (hL.ext hx)).mono fun e w' hh=>hh.1 n hA
  have HI:=AC fun (w:World)(hx:AP w0 w)=>F6 w n hn (hL.ext hx)
  have HT:=AC fun (w:World)=>Nw w s
  have hN:D1 s=if Aa n=s∧(H3 s).size≤9 then some n else none:=by unfold D1;rw [hA]
  obtain ⟨I,hI⟩:∃I,Aa n=I:=⟨_,rfl⟩
  obtain ⟨T,hT⟩:∃T,H3 s=T:=⟨_,rfl⟩
  rw [hI] at hN HI
  rw [hT] at hN HT
  have HN:=AC hN
  clear hN hA hL hI hT
  by_cases h1:I=s
  ·by_cases h2:T.size≤9
   ·have HN2:=AC (HN.out.trans (if_pos ⟨h1,h2⟩))
    go_enter Tryz.func15,Tryz.ntmps15
    repeat' (first
     | (refine Ar 35 ?_);refine As AA Tryz.call35 (HA.out _ hS.1) (C9 hS ?_);clear hS;intro w hS;go_step|(refine Ar 11 ?_);refine As AA Tryz.call11 (HI.out _ hS.1) (C9 hS ?_);clear hS;intro w hS;go_step|(refine Ar 36 ?_);refine As AA Tryz.call36 (HT.out _) (C9 hS ?_);clear hS;intro w hS;go_step|(refine AH 13 ?_);refine AR AA (V.nilI Tryz.underlying61 rfl) ?_;go_step|(refine AH 18 ?_);refine AR AA (V.eqlT rfl rfl h1) ?_;go_step|refine Pf 23 ?_|refine X0 ?_|refine X7 ?_|refine X5 9 ?_|refine X5 10 ?_|refine Pg 24 ?_|refine AF ?_;go_step|fail)
    all_goals (try exact AU)
    refine AJ (xs:=[_,_]) rfl (.cons (AD.tmp rfl) (.cons (AD.tmp rfl) (.nil))) (by simp) rfl ?_
    exact ⟨n,_,rfl,fun k hk=>(by rw [HN2.out] at hk;cases hk;exact ⟨rfl,by first|rfl|exact decide_eq_true (by omega)⟩),fun hk=>(by rw [HN2.out] at hk;cases hk),hS.1⟩
   have HN2:=AC (HN.out.trans (if_neg fun h=>h2 h.2))
   go_enter Tryz.func15,Tryz.ntmps15
   repeat' (first
    | (refine Ar 35 ?_);refine As AA Tryz.call35 (HA.out _ hS.1) (C9 hS ?_);clear hS;intro w hS;go_step|(refine Ar 11 ?_);refine As AA Tryz.call11 (HI.out _ hS.1) (C9 hS ?_);clear hS;intro w hS;go_step|(refine Ar 36 ?_);refine As AA Tryz.call36 (HT.out _) (C9 hS ?_);clear hS;intro w hS;go_step|(refine AH 13 ?_);refine AR AA (V.nilI Tryz.underlying61 rfl) ?_;go_step|(refine AH 18 ?_);refine AR AA (V.eqlT rfl rfl h1) ?_;go_step|refine Pf 23 ?_|refine X0 ?_|refine X7 ?_|refine X5 9 ?_|refine X5 10 ?_|refine Pg 24 ?_|refine AF ?_;go_step|fail)
   all_goals (try exact AU)
   refine AJ (xs:=[_,_]) rfl (.cons (AD.tmp rfl) (.cons (AD.tmp rfl) (.nil))) (by simp) rfl ?_
   exact ⟨n,_,rfl,fun k hk=>(by rw [HN2.out] at hk;cases hk),fun _=>(by first|rfl|exact decide_eq_false (by omega)),hS.1⟩
  have HN2:=AC (HN.out.trans (if_neg fun h=>h1 h.1))
  go_enter Tryz.func15,Tryz.ntmps15
  repeat' (first
   | (refine Ar 35 ?_);refine As AA Tryz.call35 (HA.out _ hS.1) (C9 hS ?_);clear hS;intro w hS;go_step|(refine Ar 11 ?_);refine As AA Tryz.call11 (HI.out _ hS.1) (C9 hS ?_);clear hS;intro w hS;go_step|(refine AH 13 ?_);refine AR AA (V.nilI Tryz.underlying61 rfl) ?_;go_step|(refine AH 18 ?_);refine AR AA (V.eqlF rfl rfl h1) ?_;go_step|go_skip|refine X0 ?_|refine QD ?_|refine X5 9 ?_|refine X5 10 ?_|refine AF ?_;go_step|fail)
  all_goals (try exact AU)
  refine AJ (xs:=[_,_]) rfl (.cons (AD.tmp rfl) (.cons (AD.tmp rfl) (.nil))) (by simp) rfl ?_
  exact ⟨n,_,rfl,fun k hk=>(by rw [HN2.out] at hk;cases hk),fun _=>rfl,hS.1⟩
 have HA:=AC fun (w:World)(hx:AP w0 w)=>(I1 w s hs (hL.ext hx)).mono fun e w' hh=>hh.2 fun n hn=>hA ⟨n,hn⟩
 have HN2:Hid (D1 s=none):=AC (by
  unfold D1
  split
  ·rename_i k hk;exact absurd ⟨k,hk⟩ hA
  rfl)
 clear hA hL
 go_enter Tryz.func15,Tryz.ntmps15
 repeat' (first
  | (refine Ar 35 ?_);refine As AA Tryz.call35 (HA.out _ hS.1) ?_;rintro e w ⟨n,t,N,rfl,hE⟩;replace hS:=hS.ext hE;clear hE;refine A2 ?_;go_step|(refine AH 13 ?_);refine AR AA (V.notNilI Tryz.underlying61 rfl) ?_;go_step|go_skip|refine X0 ?_|refine Jo ?_|refine X5 9 ?_|refine X5 10 ?_|refine AF ?_;go_step|fail)
 all_goals (try exact AU)
 refine AJ (xs:=[_,_]) rfl (.cons (AD.tmp rfl) (.cons (AD.tmp rfl) (.nil))) (by simp) rfl ?_
 exact ⟨n,_,rfl,fun k hk=>(by rw [HN2.out] at hk;cases hk),fun _=>rfl,hS.1⟩
theorem NH(n:Int)(h: -9223372036854775808≤n∧n≤9223372036854775807):(Aa n).size≤1000000:=by
 have:=Lib.itoa_length_le n h.1 h.2
 show (Lib.itoa n).toArray.size≤_
 rw [List.size_toArray]
 omega
theorem De(w0:World)(ad:Option Addr)(n c:Nat)(l:List Int)(hv:Sl w0 1 (.slice ad n c) n (l.map (Value.int .i64)))(hr:∀i,i<n→ -9223372036854775808≤AG l i∧AG l i≤9223372036854775807)(hn:n≤1000000)(hL:CM w0):
 Calls Tryz.prog 39 #[.slice ad n c] w0 fun e w=>e= .returned (.string (BN l))∧AP w0 w:=by
 have hS:=St.start w0
 have hl:l.length=n:=by have:=hv.1;simpa using this
 by_cases h0:n=0
 ·subst h0
  have HT:Hid (BN l=⟨#[45]⟩):=AC (by unfold BN;rw [if_pos hl])
  clear hl hr hL
  go_enter Tryz.func39,Tryz.ntmps39
  repeat' (first
   | refine X0 ?_|refine LD 7 ?_|refine Ki 8 ?_|refine AF ?_;go_step|fail)
  all_goals (try exact AU)
  go_ret
  exact ⟨by rw [HT.out];rfl,hS.1⟩
 have HT:Hid (BN l=⟨(Lib.join ((l.map Aa).map (·.data.toList)) [32]).toArray⟩):=AC (by unfold BN;rw [if_neg (by omega)])
 have HR:=AC hr
 have HL:=AC hL
 have HLn:=AC hl
 clear hr hL hl
 go_enter Tryz.func39,Tryz.ntmps39
 repeat' (first
  | refine X0 ?_|refine LD 7 ?_|refine Ki 8 ?_|refine AF ?_;go_step|fail)
 all_goals (try exact AU)
 repeat' (first
  | refine X1 ?_|refine LD 10 ?_|refine AF ?_;go_step|fail)
 replace hS:=hS.nil 9 1
 go_loopg [3,11] n (fun gk ov kv w=>∃(i:Nat) (ao:Option Addr) (co:Nat),gk+i=n∧ov= .slice ao i co∧kv= .int .i64 i∧St w0 w [own 9 1 ao i co (((l.take i).map Aa).map Value.string)])
 case atStart=>exact ⟨0,none,0,by omega,rfl,rfl,hS⟩
 case round=>
  clear hS
  obtain ⟨i,ao,co,hi,rfl,rfl,hS⟩:=hrel
  by_cases hlt:i<n
  ·have HI:=AC fun (w:World)(hx:AP w0 w)=>F6 w (AG l i) (HR.out i hlt) (HL.out.ext hx)
   have hst:((l.take (i+1)).map Aa).map Value.string=((l.take i).map Aa).map Value.string++[.string (Aa (AG l i))]:=by
    have hil:i<l.length:=by rw [HLn.out];exact hlt
    have hni:AG l i=l[i]:=by simp [AG,List.getD,hil]
    rw [List.take_add_one,List.getElem?_eq_getElem hil,List.map_append,List.map_append,hni]
    rfl
   have HST:=AC hst
   clear hst
   obtain ⟨I,hI⟩:∃I,Aa (AG l i)=I:=⟨_,rfl⟩
   rw [hI] at HI HST
   clear hI
   obtain ⟨x0,y0,rfl,hx0⟩:=Np hv (by omega)
   replace hx0:=hx0 i hlt
   repeat' (first
    | (refine Ar 11 ?_);refine As AA Tryz.call11 (HI.out _ hS.1) (C9 hS ?_);clear hS;intro w hS;go_step|refine X0 ?_|refine X3 12 ?_|refine RF 13 ?_|refine QR 20 ?_|refine OF ?_|refine OW 18 ?_;clear hS;intro g18 w hS|(refine AH 19 ?_);(refine At ?_;apply AY (o:=⟨some 19,_,_,_,_,_⟩) hS _ _ 22 rfl 9 1 16 EG _ _ _ _ rfl;(case hp=>exact AQ);(case hx=>exact rfl);(case hm=>(first|exact hS.slBlk AQ (by rfl) (by decide)|exact hS.sl AQ|with_reducible assumption|exact Sl.ext (by with_reducible assumption) hS.1|exact Sl.nil _ _|exact Sl.ext (by assumption) hS.1|assumption));(case h1=>(first|exact BJ rfl|(intro u hu;obtain ⟨x,_,rfl⟩:=List.mem_map.1 hu;rfl)));(case h63=>unfold maxLen;omega);(case hb=>omega);clear hS;intro ad19 c19 w hS;(first|simp only [B4] at hS|simp only [B5] at hS|simp only [B6] at hS|simp only [B7] at hS|simp only [B8] at hS|skip);refine AB ?_;go_step)|refine AF ?_;go_step|fail)
   all_goals (try exact AU)
   go_roundg (gk-1)
   case measure=>omega
   case rel=>exact ⟨i+1,_,_,by omega,rfl,by go_num,by rw [HST.out];exact hS.sub Ad⟩
  obtain rfl:i=n:=by omega
  have htk:l.take i=l:=List.take_of_length_le (by rw [HLn.out];exact Nat.le_refl _)
  rw [htk] at hS
  obtain ⟨bk,rfl⟩:=Bb (a:=ao) hS AQ (by omega)
  have HJ:=AC (NI wr bk 0 co (l.map Aa) (fun j x hx=>by
   have h9:=hS.sl (a:=some ⟨bk,0,none⟩) (s:=1) AQ
   obtain ⟨b2,o2,e2,hc2⟩:=BW h9 (by omega)
   cases e2
   exact hc2 j _ (by rw [List.getElem?_map,hx];rfl)) (by
   have h9:=hS.sl (a:=some ⟨bk,0,none⟩) (s:=1) AQ
   obtain ⟨b2,o2,e2,hc2⟩:=BW h9 (by omega)
   cases e2
   have hil:0<l.length:=by rw [HLn.out];omega
   exact Lib.lt_of_cell (hc2 0 (.string (Aa l[0])) (by simp [hil]))) (by rw [List.length_map,HLn.out];omega) (by
   rw [List.length_map,HLn.out]
   have h9:=hS.sl (a:=some ⟨bk,0,none⟩) (s:=1) AQ
   obtain ⟨_,aa,cc,e,h1,h2,_⟩:=h9
   cases e;exact h1) (fun x hx=>by
   obtain ⟨y,hy,rfl⟩:=List.mem_map.1 hx
   obtain ⟨k,hk,rfl⟩:=List.getElem_of_mem hy
   have:=HR.out k (by rw [←HLn.out];exact hk)
   rw [show AG l k=l[k] by simp [AG,List.getD,hk]] at this
   exact NH _ this))
  rw [List.length_map,HLn.out] at HJ
  obtain ⟨J,hJ⟩:∃J,(⟨(Lib.join ((l.map Aa).map (·.data.toList)) [32]).toArray⟩:ByteArray)=J:=⟨_,rfl⟩
  rw [hJ] at HT HJ
  clear hJ htk
  repeat' (first
   | refine X1 ?_|refine X3 12 ?_|refine AF ?_;go_step|fail)
  all_goals (try exact AU)
  repeat' (first
   | (refine Ar 63 ?_);refine As AA Tryz.call63 (HJ.out) (C9 hS ?_);clear hS;intro w hS;go_step|refine X8 ?_|refine AF ?_;go_step|fail)
  go_ret
  exact ⟨by rw [HT.out];rfl,hS.1⟩
theorem LZ(l:List Int):(Value.agg (iv l))=Value.agg (AE [.ints l]).toArray:=by simp [AE,AO.cells,iv]
theorem GI(a b:List AO):AE (a++b)=AE a++AE b:=by
 induction a with
 | nil=>rfl
 | cons x a ih=>rw [List.cons_append,AE,AE,ih,List.append_assoc]
inductive OE(ss:List AO):List AO→Nat→List AO→Prop
 | head {B D:List AO} (hb:(AE B).length=(AE ss).length):OE ss (B++D) 0 (ss++D)
 | skipI {l:List Int} {ps ps':List AO} {off n o2:Nat} (hn:A4 l n) (h:n≤off) (ho:off-n=o2) (t:OE ss ps o2 ps'):OE ss (.ints l::ps) off (.ints l::ps')
 | skipV {v:Value} {ps ps':List AO} {off:Nat} (t:OE ss ps off ps'):OE ss (.val v::ps) (off+1) (.val v::ps')
theorem OE.eq{ss ps ps':List AO}{off:Nat}(h:OE ss ps off ps'):∃A B D:List Value,AE ps=A++(B++D)∧AE ps'=A++(AE ss++D)∧A.length=off∧B.length=(AE ss).length:=by
 induction h with
 | @head B D hb=>exact ⟨[],AE B,AE D,by rw [GI];rfl,by rw [GI];rfl,rfl,hb⟩
 | @skipI l ps ps' off n o2 hn h ho t ih=>
   obtain ⟨A,B,D,e1,e2,e3,e4⟩:=ih
   have hl:=hn.out
   exact ⟨l.map (Value.int .i64)++A,B,D,by rw [AE,e1,List.append_assoc];rfl,by rw [AE,e2,List.append_assoc];rfl,by simp;omega,e4⟩
 | @skipV v ps ps' off t ih=>
   obtain ⟨A,B,D,e1,e2,e3,e4⟩:=ih
   exact ⟨v::A,B,D,by rw [AE,e1];rfl,by rw [AE,e2];rfl,by simp [e3],e4⟩
theorem Hs(g:Nat):∀(vs B A D:List Value)(w:World),Gl w g (A++(B++D)).toArray→B.length=vs.length→Gl (w.setCells g A.length vs) g (A++(vs++D)).toArray∧Cy [g] w (w.setCells g A.length vs)
 | [],[],A,D,w,h,_=>⟨h,⟨rfl,rfl,rfl,Nat.le_refl _,fun _ _ _=>rfl⟩⟩
 | [],_::_,A,D,w,h,hl=>by simp at hl
 | _::_,[],A,D,w,h,hl=>by simp at hl
 | v::vs,b::B,A,D,w,h,hl=>by
   have h1:=h.set A.length v
   have e1:((A++(b::B++D)).toArray).setIfInBounds A.length v=((A++[v])++(B++D)).toArray:=by
    simp
   rw [e1] at h1
   obtain ⟨h2,h3⟩:=Hs g vs B (A++[v]) D _ h1 (by simpa using hl)
   have e2:w.setCells g A.length (v::vs)=(w.setCell ⟨g,A.length,none⟩ v).setCells g (A++[v]).length vs:=by
    rw [World.setCells,List.length_append];rfl
   rw [e2]
   refine ⟨by simpa using h2,?_⟩
   have h4:=Cy.setCell w ⟨g,A.length,none⟩ v
   exact ⟨h3.os.trans h4.os,h3.tape.trans h4.tape,h3.output.trans h4.output,Nat.le_trans h4.size h3.size,fun k hk hm=>(h3.block k (Nat.lt_of_lt_of_le hk h4.size) hm).trans (h4.block k hk hm)⟩
section
variable{P:Program}{W w:World}{rs rs':List Ak}{Q:Exit→Act→World→Prop}{K:Act→World→Prop}{o:Oper}{a:Act}
theorem Ka(hS:St W w rs)(ty:TypeId)(x y:Operand)(ho:o.op= .store ty x y)(g off:Nat)(hx:a.eval x= .pointer (some ⟨g,off,none⟩))(m:Nat)(h1:DB P ty m)(ps ps' ss:List AO)(hp:AL (prt g ps) rs rs')
 (hy:a.eval y= .agg (AE ss).toArray) (hr:OE ss ps off ps') (hm:(AE ss).length=m) (hv:ss.all Ic=true) (hd:o.dst=none) (h:∀w',St W w' (prt g ps'::rs')→K a w'):o.wp P a w K Q:=by
 obtain ⟨A,B,D,e1,e2,e3,e4⟩:=hr.eq
 subst e3
 have hb:=(hS.blk hp).1
 rw [e1] at hb
 obtain ⟨h2,h3⟩:=Hs g (AE ss) B A D w hb e4
 refine wp_store_mid ty x y ho g A.length (AE ss).toArray hx hy ?_ (by rw [h1.2];simp [hm]) (by simpa using Dm hv) ?_
 ·intro j hj
  rw [List.size_toArray] at hj
  refine ⟨?_,hb.free _⟩
  rw [hb.cell]
  have:A.length+j<(A++(B++D)).toArray.size:=by simp;omega
  rw [Array.getElem?_eq_getElem this];rfl
 rw [show a.put o.dst undef=a by rw [hd];rfl]
 refine h _ ?_
 refine St.change (rs1:=[prt g ps']) (hS.pull hp) fun f1 k1 _ _=>?_
 obtain ⟨rfl,_⟩:=k1
 refine ⟨[g],⟨[g],[],rfl,⟨rfl,?_⟩,rfl⟩,by simp,fun b hb=> .inl hb,h3⟩
 rw [e2];exact h2
end
theorem If(n:Int)(w:World)(h:n≤ -4096∨4096≤n):Calls Tryz.prog 50 #[.int .i64 n] w fun e w'=>e= .returned (.tuple #[.int .i64 0, .int .i64 0, .int .i64 1])∧AP w w':=by
 have hS:=St.start w
 go_enter Tryz.func50,Tryz.ntmps50
 repeat' (first
  | go_skip|((first|(with_reducible refine Gj ?_)|(with_reducible refine MT ?_));(first|go_big_want|go_step);go_step)|((with_reducible refine Ap _ (.pick _ _ _) ?_);first|(refine Al rfl AA ?_;go_step)|(refine Af rfl AA ?_;go_step))|((refine AH 7 ?_);(refine BX _ (V.leq rfl rfl) AA (fun hB=>?_) (fun hB=>?_)<;>(try exact AU)<;>go_step))|((with_reducible refine Ap _ (.binOp .geq _ _ _ _) ?_);(refine AR AA (V.geq rfl rfl) ?_;go_step))|(refine AF ?_;go_step)|fail)
 all_goals (try exact AU)
 all_goals
  refine AJ (xs:=[_,_,_]) rfl (.cons (AD.tmp rfl) (.cons (AD.tmp rfl) (.cons (AD.tmp rfl) (.nil)))) (by simp) rfl ?_
  exact ⟨rfl,hS.1⟩
theorem KN(a1 a2 a3 a4 b1 b2 b3 b4 c1 c2 c3 c4 r g b:Int)(w:World)(h:r<0∨255<r):
 Calls Tryz.prog 52 #[.agg #[.int .i64 a1, .int .i64 a2, .int .i64 a3, .int .i64 a4, .int .i64 b1, .int .i64 b2, .int .i64 b3, .int .i64 b4, .int .i64 c1, .int .i64 c2, .int .i64 c3, .int .i64 c4], .agg #[.int .i64 r, .int .i64 g, .int .i64 b]] w
  fun e w'=>e= .returned (.tuple #[.int .i64 0, .int .i64 0, .int .i64 0, .int .i64 1])∧AP w w':=by
 rcases h with h|h
 all_goals
  go_enter Tryz.func52,Tryz.ntmps52
  go_wp2_with (first|(with_reducible refine wp_loop_rounds 4 ?_)|(with_reducible rw [rounds_succ]))
  refine bodyPost_ret (A7 rfl _ _ _) rfl ?_
  exact ⟨rfl,by repeat (first|exact AP.refl _|apply AP.drew|apply AP.drewN|apply AP.alloc|refine AP.setCell ?_ (by simp;omega) _)⟩
theorem KO(a1 a2 a3 a4 b1 b2 b3 b4 c1 c2 c3 c4 r g b:Int)(w:World)(ha1: -200000000≤a1∧a1≤200000000)(ha2: -200000000≤a2∧a2≤200000000)(ha4: -200000000≤a4∧a4≤200000000)(hr:0≤r∧r≤255)(h:g<0∨255<g):
 Calls Tryz.prog 52 #[.agg #[.int .i64 a1, .int .i64 a2, .int .i64 a3, .int .i64 a4, .int .i64 b1, .int .i64 b2, .int .i64 b3, .int .i64 b4, .int .i64 c1, .int .i64 c2, .int .i64 c3, .int .i64 c4], .agg #[.int .i64 r, .int .i64 g, .int .i64 b]] w
  fun e w'=>e= .returned (.tuple #[.int .i64 0, .int .i64 0, .int .i64 0, .int .i64 1])∧AP w w':=by
 have ⟨pa1,qa1⟩:=Eb a1 r 200000000 255 ha1 hr
 simp only [Int.reduceMul,Int.reduceNeg] at pa1 qa1
 obtain ⟨hr1,hr2⟩:=hr
 obtain ⟨ha41,ha42⟩:=ha4
 clear ha1 ha2
 rcases h with h|h
 all_goals
  go_enter Tryz.func52,Tryz.ntmps52
  go_wp2_with (first|(with_reducible refine wp_loop_rounds 4 ?_)|(with_reducible rw [rounds_succ]))
  refine bodyPost_ret (A7 rfl _ _ _) rfl ?_
  exact ⟨rfl,by repeat (first|exact AP.refl _|apply AP.drew|apply AP.drewN|apply AP.alloc|refine AP.setCell ?_ (by simp;omega) _)⟩
theorem KP(a1 a2 a3 a4 b1 b2 b3 b4 c1 c2 c3 c4 r g b:Int)(w:World)(ha1: -200000000≤a1∧a1≤200000000)(ha2: -200000000≤a2∧a2≤200000000)(ha4: -200000000≤a4∧a4≤200000000)(hr:0≤r∧r≤255)(hg:0≤g∧g≤255)(h:b<0∨255<b):
 Calls Tryz.prog 52 #[.agg #[.int .i64 a1, .int .i64 a2, .int .i64 a3, .int .i64 a4, .int .i64 b1, .int .i64 b2, .int .i64 b3, .int .i64 b4, .int .i64 c1, .int .i64 c2, .int .i64 c3, .int .i64 c4], .agg #[.int .i64 r, .int .i64 g, .int .i64 b]] w
  fun e w'=>e= .returned (.tuple #[.int .i64 0, .int .i64 0, .int .i64 0, .int .i64 1])∧AP w w':=by
 have ⟨pa1,qa1⟩:=Eb a1 r 200000000 255 ha1 hr
 have ⟨pa2,qa2⟩:=Eb a2 g 200000000 255 ha2 hg
 simp only [Int.reduceMul,Int.reduceNeg] at pa1 qa1 pa2 qa2
 obtain ⟨hr1,hr2⟩:=hr
 obtain ⟨hg1,hg2⟩:=hg
 obtain ⟨ha41,ha42⟩:=ha4
 clear ha1 ha2
 rcases h with h|h
 all_goals
  go_enter Tryz.func52,Tryz.ntmps52
  go_wp2_with (first|(with_reducible refine wp_loop_rounds 4 ?_)|(with_reducible rw [rounds_succ]))
  refine bodyPost_ret (A7 rfl _ _ _) rfl ?_
  exact ⟨rfl,by repeat (first|exact AP.refl _|apply AP.drew|apply AP.drewN|apply AP.alloc|refine AP.setCell ?_ (by simp;omega) _)⟩
theorem Hy(a1 a2 a3 a4 b1 b2 b3 b4 c1 c2 c3 c4 r g b:Int)(w:World)(ha1: -200000000≤a1∧a1≤200000000)(ha2: -200000000≤a2∧a2≤200000000)(ha4: -200000000≤a4∧a4≤200000000)(h:(BB r&&BB g&&BB b)=false):
 Calls Tryz.prog 52 #[.agg #[.int .i64 a1, .int .i64 a2, .int .i64 a3, .int .i64 a4, .int .i64 b1, .int .i64 b2, .int .i64 b3, .int .i64 b4, .int .i64 c1, .int .i64 c2, .int .i64 c3, .int .i64 c4], .agg #[.int .i64 r, .int .i64 g, .int .i64 b]] w
  fun e w'=>e= .returned (.tuple #[.int .i64 0, .int .i64 0, .int .i64 0, .int .i64 1])∧AP w w':=by
 by_cases h1:0≤r∧r≤255
 ·by_cases h2:0≤g∧g≤255
  ·refine KP _ _ _ _ _ _ _ _ _ _ _ _ _ _ _ w ha1 ha2 ha4 h1 h2 ?_
   simp [BB,h1,h2] at h
   omega
  exact KO _ _ _ _ _ _ _ _ _ _ _ _ _ _ _ w ha1 ha2 ha4 h1 (by omega)
 exact KN _ _ _ _ _ _ _ _ _ _ _ _ _ _ _ w (by omega)
theorem KS(r g b:Int)(w:World)(h:(BB r&&BB g&&BB b)=false):Calls Tryz.prog 32 #[.int .i64 r, .int .i64 g, .int .i64 b] w fun e w'=>e= .returned (.tuple #[.int .i64 0, .int .i64 0, .int .i64 0, .int .i64 1])∧AP w w':=by
 go_enter Tryz.func32,Tryz.ntmps32
 go_wp2_with (go_at_call 52;refine (Hy 19595 38470 7471 0 (-11059) (-21709) 32768 8388608 32768 (-27439) (-5329) 8388608 r g b _ (by omega) (by omega) (by omega) h).mono ?_;rintro e w' ⟨rfl,hgr⟩)
 refine bodyPost_ret (A7 rfl _ _ _) rfl ?_
 exact ⟨rfl,(by repeat (first|exact AP.refl _|apply AP.drew|apply AP.drewN|apply AP.alloc):AP w _).trans hgr⟩
theorem Ij(r g b:Int)(w:World)(h:(BB r&&BB g&&BB b)=false):Calls Tryz.prog 33 #[.int .i64 r, .int .i64 g, .int .i64 b] w fun e w'=>e= .returned (.tuple #[.int .i64 0, .int .i64 0, .int .i64 0, .int .i64 1])∧AP w w':=by
 go_enter Tryz.func33,Tryz.ntmps33
 go_wp2_with (go_at_call 52;refine (Hy 65536 0 91881 (-11760768) 65536 (-22554) (-46802) 8877568 65536 116130 0 (-14864640) r g b _ (by omega) (by omega) (by omega) h).mono ?_;rintro e w' ⟨rfl,hgr⟩)
 refine bodyPost_ret (A7 rfl _ _ _) rfl ?_
 exact ⟨rfl,(by repeat (first|exact AP.refl _|apply AP.drew|apply AP.drewN|apply AP.alloc):AP w _).trans hgr⟩
end Go.Proofs.YtngojkompmcceaaGreatDoor
