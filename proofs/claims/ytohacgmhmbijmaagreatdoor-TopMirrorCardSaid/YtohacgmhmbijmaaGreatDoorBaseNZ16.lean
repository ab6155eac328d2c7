/- What the laws FrameAlone FrameGray FrameNear FrameFlat TopScale TopMirror need, part 16. -/
import Derived.Test.YtohacgmhmbijmaaGreatDoorBaseNZ2
import Derived.Test.YtohacgmhmbijmaaGreatDoorBaseNZ3
import Derived.Test.YtohacgmhmbijmaaGreatDoorBaseNZ5
import Derived.Test.YtohacgmhmbijmaaGreatDoorBaseNZ8
import Derived.Test.YtohacgmhmbijmaaGreatDoorBaseNZ10
import Derived.Test.YtohacgmhmbijmaaGreatDoorBaseNZ11
import Derived.Test.YtohacgmhmbijmaaGreatDoorBaseNZ15
import Derived.RangeFuncNested
import Derived.RangeFuncBound
import Derived.RangeFuncCalls
import Derived.RangeFuncLeaves
import Derived.RangeFuncFrom
import Derived.OwnWalkIn
import Derived.LoopIn
namespace Go.Proofs.YtohacgmhmbijmaaGreatDoor
attribute [local irreducible] Region.wanted
set_option linter.unusedVariables false
set_option maxRecDepth 100000
set_option maxHeartbeats 8000000
def CT(c:List Int)(n:Nat):List Int:=((List.range n).filter fun s=>decide (0<AF c s)).map fun (s:Nat)=>(s:Int)
def VS(c:List Int)(s:Int):Int:=if s= -1 then 0 else AF c s.toNat
theorem B3(c:List Int)(n:Nat)(s:Int):s∈CT c n↔0≤s∧s<n∧0<AF c s.toNat:=by
 unfold CT
 simp only [List.mem_map,List.mem_filter,List.mem_range,decide_eq_true_eq]
 constructor
 ·rintro ⟨a,⟨h1,h2⟩,rfl⟩;exact ⟨by omega,by omega,by simpa using h2⟩
 intro ⟨h1,h2,h3⟩;exact ⟨s.toNat,⟨by omega,h3⟩,by omega⟩
theorem Mt(c:List Int)(n:Nat):(CT c n).Nodup:=by
 unfold CT
 rw [List.nodup_iff_pairwise_ne,List.pairwise_map]
 refine List.Pairwise.imp ?_ (List.Pairwise.filter _ List.nodup_range)
 intro a b h e
 exact h (by omega)
theorem aH(c:List Int)(n:Nat):J7 (K3 c n) (-1::CT c n):=by
 refine ⟨?_,List.nodup_cons.2 ⟨fun h=>by have:=(B3 c n _).1 h;omega,Mt c n⟩⟩
 unfold K3 CT
 simp [List.map_map,Function.comp_def]
theorem kL(c:List Int)(n:Nat):∀x∈K3 c n,x.1=isum (VS c) x.2:=by
 intro x hx
 rcases List.mem_cons.1 hx with rfl|hx
 ·simp [isum,VS]
 obtain ⟨s,_,rfl⟩:=List.mem_map.1 hx
 simp only [isum,List.map_cons,List.map_nil,List.sum_cons,List.sum_nil,VS]
 rw [if_neg (by omega)];simp
theorem PV(c:Nat→Nat):∀k,k≤16→nx c k*2^(16-k)=sm (fun i=>c i*2^(15-i)) k
 | 0,_=>by simp [nx,sm]
 | k+1,h=>by
   have ih:=PV c k (by omega)
   rw [sm,←ih,nx,Nat.add_mul,show 16-k=(16-(k+1))+1 by omega,show 16-(k+1)=15-k by omega,Nat.pow_succ]
   rw [Nat.mul_comm 2 (nx c k),Nat.mul_assoc,Nat.mul_comm 2 (2^(15-k))]
theorem Pr(a b:Nat→Nat):∀k,sm (fun i=>a i+b i) k=sm a k+sm b k
 | 0=>rfl
 | k+1=>by simp only [sm];rw [Pr a b k];omega
theorem H7{a b:Nat→Nat}:∀k,(∀i,i<k→a i=b i)→sm a k=sm b k
 | 0,_=>rfl
 | k+1,h=>by simp only [sm];rw [H7 k fun i hi=>h i (by omega),h k (by omega)]
def I8(l:Nat):Nat:=if 1≤l then 2^(16-l) else 0
theorem dq(l:Nat)(h:l≤16):sm (fun i=>(if l=i+1 then 1 else 0)*2^(15-i)) 16=I8 l:=by
 have:∀l,l<17→sm (fun i=>(if l=i+1 then 1 else 0)*2^(15-i)) 16=I8 l:=by decide
 exact this l (by omega)
theorem RW(f:Int→Nat)(hf:∀s,f s≤16):∀n,sm (fun i=>(CV f n (i+1)).length*2^(15-i)) 16=A4 (fun s:Nat=>I8 (f (s:Int))) (List.range n)
 | 0=>by simp [CV,A4];decide
 | n+1=>by
   rw [List.range_succ,G4,←RW f hf n]
   have:A4 (fun s:Nat=>I8 (f (s:Int))) [n]=I8 (f (n:Int)):=by simp [A4]
   rw [this,←dq _ (hf _),←Pr]
   refine H7 16 fun i hi=>?_
   rw [Ip,←Nat.add_mul]
   by_cases h:f (n:Int)=i+1
   ·rw [if_pos h,if_pos h,List.length_append];rfl
   rw [if_neg h,if_neg h];rfl
theorem JP{α β:Type}(g:α→β)(f:β→Nat)(l:List α):A4 f (l.map g)=A4 (fun x=>f (g x)) l:=by
 unfold A4;rw [List.map_map];rfl
theorem ZL{α β:Type}(g:α→β)(f:β→Int)(l:List α):isum f (l.map g)=isum (fun x=>f (g x)) l:=by
 unfold isum;rw [List.map_map];rfl
theorem RE{α:Type}(p:α→Bool)(f:α→Nat)(l:List α)(h:∀x∈l,p x=false→f x=0):A4 f (l.filter p)=A4 f l:=by
 induction l with
 | nil=>rfl
 | cons x l ih=>
   have ih:=ih fun y hy=>h y (by simp [hy])
   rw [List.filter_cons]
   by_cases hp:p x=true
   ·rw [if_pos hp,BC,BC,ih]
   rw [if_neg hp,BC,ih,h x (by simp) (by simpa using hp),Nat.zero_add]
theorem Qz{α:Type}(p:α→Bool)(f:α→Int)(l:List α)(h:∀x∈l,p x=false→f x=0):isum f (l.filter p)=isum f l:=by
 induction l with
 | nil=>rfl
 | cons x l ih=>
   have ih:=ih fun y hy=>h y (by simp [hy])
   rw [List.filter_cons]
   by_cases hp:p x=true
   ·rw [if_pos hp,Ca,Ca,ih]
   rw [if_neg hp,Ca,ih,h x (by simp) (by simpa using hp),Int.zero_add]
def Gy(c:List Int)(n:Nat)(l:Int→Nat):Int:=isum (fun s:Nat=>AF c s*(l (s:Int):Nat)) (List.range n)
structure OJ(c:List Int)(n:Nat)(l:Int→Nat):Prop where
 top:∀s∈CT c n,1≤l s∧l s≤16
 kraft:A4 (fun s=>2^(16-l s)) (CT c n)<2^16
theorem OO(c:List Int)(n:Nat)(l:Int→Nat)(h0:∀i,i<n→0≤AF c i):isum (fun s=>VS c s*(l s:Nat)) (CT c n)=Gy c n l:=by
 unfold CT Gy
 rw [ZL,FB _ (fun s:Nat=>AF c s*(l (s:Int):Nat)) _ fun s _=>?_]
 ·refine Qz _ _ _ fun x hx hp=>?_
  have:=h0 x (List.mem_range.1 hx)
  have h1:¬0<AF c x:=by simpa using hp
  rw [show AF c x=0 by omega,Int.zero_mul]
 unfold VS;rw [if_neg (by omega)];simp
theorem ZS{c:List Int}{n:Nat}{R:List Pk}(hn:n≤256)(h0:∀i,i<n→0≤AF c i)(hR:DI (K3 c n) 16 R)(f:Int→Nat)(hf:f=FD (R.take (2*(K3 c n).length-2))):
 (∀s,f s≤16)∧(∀s,s∉CT c n→0≤s→f s=0)∧OJ c n f∧(∀l,OJ c n l→Gy c n f≤Gy c n l)∧(∀a b,a∈CT c n→b∈CT c n→AF c b.toNat<AF c a.toNat→f a≤f b):=by
 have hS:=aH c n
 have hlen:=hS.len
 have hpl:(CT c n).length≤n:=by
  unfold CT
  have:=List.length_filter_le (fun s=>decide (0<AF c s)) (List.range n)
  simp at this⊢;exact this
 have hw0:∀s∈(-1::CT c n),0≤VS c s:=fun s hs=>by
  rcases List.mem_cons.1 hs with rfl|hs
  ·simp [VS]
  have:=(B3 c n s).1 hs
  unfold VS;rw [if_neg (by omega)];omega
 obtain ⟨_,b1,b2,b3,b4,b5⟩:=Vx hS (VS c) (kL c n) hw0 (by simp) (by simp;omega) hR
 rw [←hlen,←hf] at b1 b2 b3 b4 b5
 have hpos:∀s∈CT c n,1≤f s:=fun s hs=>Wi b3 (List.mem_cons_of_mem _ hs) (List.mem_cons_self (a:= -1)) (by have:=(B3 c n s).1 hs;omega)
 rw [BC] at b3
 have hone:1≤2^(16-f (-1)):=Nat.one_le_two_pow
 refine ⟨b1,fun s hs hs0=>b2 s (by simp only [List.mem_cons,not_or];exact ⟨by omega,hs⟩),⟨fun s hs=>⟨hpos s hs,b1 s⟩,by omega⟩,fun l hl=>?_,fun a b ha hb hab=>?_⟩
 ·have hb4:=b4 (fun s=>if s= -1 then 16 else l s) (fun s hs=>by
   show (if s= -1 then 16 else l s)≤16
   rcases List.mem_cons.1 hs with rfl|hs
   ·simp
   ·have:=(B3 c n s).1 hs
    rw [if_neg (by omega)];exact (hl.top s hs).2) (by
   rw [BC]
   have:=hl.kraft
   have e:A4 (fun s=>2^(16-(if s= -1 then 16 else l s))) (CT c n)=A4 (fun s=>2^(16-l s)) (CT c n):=DE _ _ _ fun s hs=>by
    have:=(B3 c n s).1 hs
    rw [if_neg (by omega)]
   rw [e];simp;simp at this;omega)
  rw [Ca,Ca] at hb4
  have z:∀x:Int,VS c (-1)*x=0:=fun x=>by simp [VS]
  rw [z,z,OO c n f h0] at hb4
  have e:isum (fun s=>VS c s*((if s= -1 then 16 else l s:Nat):Int)) (CT c n)=isum (fun s=>VS c s*(l s:Nat)) (CT c n):=FB _ _ _ fun s hs=>by
   have:=(B3 c n s).1 hs
   rw [if_neg (by omega)]
  rw [e,OO c n l h0] at hb4
  omega
 have h1:=(B3 c n a).1 ha
 have h2:=(B3 c n b).1 hb
 exact b5 a b (List.mem_cons_of_mem _ hb) (by unfold VS;rw [if_neg (by omega),if_neg (by omega)];exact hab)
theorem Ml{a b:Nat→Nat}:∀k,(∀i,i<k→a i=b i)→nx a k=nx b k
 | 0,_=>rfl
 | k+1,h=>by rw [nx,nx,Ml k fun i hi=>h i (by omega),h k (by omega)]
theorem ON{a b:Nat→Nat}:∀k,(∀i,i<k→a i=b i)→Hs a k=Hs b k
 | 0,_=>rfl
 | k+1,h=>by rw [Hs,Hs,ON k fun i hi=>h i (by omega),h k (by omega),Ml k fun i hi=>h i (by omega)]
theorem Zg(l:Nat)(h:l≤16):sm (fun i=>if l=i+1 then 1 else 0) 16=if 1≤l then 1 else 0:=by
 have:∀l,l<17→sm (fun i=>if l=i+1 then 1 else 0) 16=if 1≤l then 1 else 0:=by decide
 exact this l (by omega)
theorem RV(f:Int→Nat)(hf:∀s,f s≤16):∀n,sm (fun i=>(CV f n (i+1)).length) 16=A4 (fun s:Nat=>if 1≤f (s:Int) then 1 else 0) (List.range n)
 | 0=>by simp [CV,A4];decide
 | n+1=>by
   rw [List.range_succ,G4,←RV f hf n]
   have:A4 (fun s:Nat=>if 1≤f (s:Int) then 1 else 0) [n]=if 1≤f (n:Int) then 1 else 0:=by simp [A4]
   rw [this,←Zg _ (hf _),←Pr]
   refine H7 16 fun i hi=>?_
   rw [Ip]
   by_cases h:f (n:Int)=i+1
   ·rw [if_pos h,if_pos h,List.length_append];rfl
   rw [if_neg h,if_neg h];rfl
theorem IC(f:Int→Nat)(n:Nat):∀k,(Di f n k).length=sm (fun i=>(CV f n (i+1)).length) k
 | 0=>rfl
 | k+1=>by rw [Dk,List.length_append,IC f n k,sm]
theorem Kb(f:Int→Nat)(n k:Nat)(s:Int):s∈CV f n k↔0≤s∧s<n∧f s=k:=by
 unfold CV
 simp only [List.mem_map,List.mem_filter,List.mem_range,decide_eq_true_eq]
 constructor
 ·rintro ⟨a,⟨h1,h2⟩,rfl⟩;exact ⟨by omega,by omega,h2⟩
 intro ⟨h1,h2,h3⟩;exact ⟨s.toNat,⟨by omega,by rw [Int.toNat_of_nonneg h1];exact h3⟩,by omega⟩
theorem Rk(f:Int→Nat)(n k:Nat):(CV f n k).Nodup:=by
 unfold CV
 rw [List.nodup_iff_pairwise_ne,List.pairwise_map]
 refine List.Pairwise.imp ?_ (List.Pairwise.filter _ List.nodup_range)
 intro a b h e
 exact h (by omega)
theorem Iq(f:Int→Nat)(n:Nat)(s:Int):∀k,s∈Di f n k↔0≤s∧s<n∧1≤f s∧f s≤k
 | 0=>by simp [Di];intro _ _ _;omega
 | k+1=>by
   rw [Dk,List.mem_append,Iq f n s k,Kb]
   constructor
   ·rintro (h|h)<;>omega
   intro h
   by_cases e:f s=k+1
   ·right;omega
   left;omega
theorem Jm(f:Int→Nat)(n:Nat):∀k,(Di f n k).Nodup
 | 0=>by simp [Di]
 | k+1=>by
   rw [Dk,List.nodup_append]
   refine ⟨Jm f n k,Rk f n (k+1),fun a ha b hb e=>?_⟩
   subst e
   have h1:=(Iq f n a k).1 ha
   have h2:=(Kb f n (k+1) a).1 hb
   omega
theorem O1(f:Int→Nat)(n:Nat):∀k,∀x∈(Di f n k).zip (Hs (fun i=>(CV f n (i+1)).length) k),x.2.1=f x.1
 | 0,x,h=>by simp [Di] at h
 | k+1,x,h=>by
   rw [Dk,Hs,List.zip_append (by rw [IC,GL])] at h
   rcases List.mem_append.1 h with h|h
   ·exact O1 f n k x h
   have h1:=(List.of_mem_zip (a:=x.1) (b:=x.2) h)
   obtain ⟨j,_,e⟩:=List.mem_map.1 h1.2
   have h2:=(Kb f n (k+1) x.1).1 h1.1
   rw [h2.2.2,←e]
def lw(L:List (Int×Nat×Nat))(s:Int):Nat:=match symW L s with
 | some x=>x.1
 | none=>0
theorem VT{C S:List Int}(h:sm (cc C) 16=S.length):(CE C S).map (·.1)=S:=by
 unfold CE
 exact List.map_fst_zip (by rw [GL,h];exact Nat.le_refl _)
theorem eb{C S:List Int}(h:sm (cc C) 16=S.length):(CE C S).map (·.2)=Hs (cc C) 16:=by
 unfold CE
 exact List.map_snd_zip (by rw [GL,h];exact Nat.le_refl _)
theorem TA{C S:List Int}(h:A5 C S=0){x:Int×Nat×Nat}(hx:x∈CE C S):symW (CE C S) x.1=some x.2∧lw (CE C S) x.1=x.2.1:=by
 have:=(CC h).symW hx
 exact ⟨this,by unfold lw;rw [this]⟩
theorem fL{C S:List Int}(h:A5 C S=0){s:Int}(hs:s∈S):∃x∈CE C S,x.1=s:=by
 have h2:=(CM h).2.1
 rw [←VT h2] at hs
 obtain ⟨x,hx,e⟩:=List.mem_map.1 hs
 exact ⟨x,hx,e⟩
theorem ZR{C S:List Int}(h:A5 C S=0)(s:Int):(s∈S→1≤lw (CE C S) s∧lw (CE C S) s≤16)∧(s∉S→lw (CE C S) s=0):=by
 constructor
 ·intro hs
  obtain ⟨x,hx,rfl⟩:=fL h hs
  rw [(TA h hx).2]
  have:=(CC h).long x hx
  omega
 intro hs
 unfold lw
 cases e:symW (CE C S) s with
 | none=>rfl
 | some y=>exact absurd (Ln C S _ (GB e)).1 hs
theorem TB{c C S:List Int}{n:Nat}{f:Int→Nat}(hn:n≤256)(h16:∀s,f s≤16)(hz:∀s,s∉CT c n→0≤s→f s=0)(hl:OJ c n f)(hC:∀i,i<16→AF C i=((CV f n (i+1)).length:Nat))(hS:S=Di f n 16):
 A5 C S=0∧(∀s:Int,0≤s→s<n→lw (CE C S) s=f s)∧S.length=(CT c n).length∧(∀s,s∈S↔s∈CT c n):=by
 have hcc:∀i,i<16→cc C i=(CV f n (i+1)).length:=fun i hi=>by unfold cc;rw [hC i hi];simp
 have hmem:∀s,s∈S↔s∈CT c n:=fun s=>by
  rw [hS,Iq]
  constructor
  ·intro h
   by_cases hp:s∈CT c n
   ·exact hp
   have:=hz s hp h.1;omega
  intro h
  have h1:=(B3 c n s).1 h
  have h2:=hl.top s h
  exact ⟨h1.1,h1.2.1,h2.1,h2.2⟩
 have hsm:sm (cc C) 16=S.length:=by rw [hS,IC,H7 16 hcc]
 have hlen:S.length=(CT c n).length:=by
  rw [hS,IC,RV f h16]
  unfold CT
  rw [List.length_map,←Zb]
  refine DE _ _ _ fun s hs=>?_
  by_cases hp:(s:Int)∈CT c n
  ·have h1:=(B3 c n s).1 hp
   rw [if_pos (hl.top _ hp).1,if_pos (by simpa using h1.2.2)]
  have h1:¬0<AF c s:=fun h=>hp ((B3 c n s).2 ⟨by omega,by simp at hs;omega,by simpa using h⟩)
  rw [if_neg (by rw [hz _ hp (by omega)];omega),if_neg (by simpa using h1)]
 have hpl:(CT c n).length≤n:=by
  unfold CT
  have:=List.length_filter_le (fun s=>decide (0<AF c s)) (List.range n)
  simp at this⊢;exact this
 have hnx:nx (cc C) 16<65536:=by
  have h1:=PV (fun i=>(CV f n (i+1)).length) 16 (by omega)
  rw [RW f h16] at h1
  rw [Ml 16 hcc]
  have h2:A4 (fun s:Nat=>I8 (f (s:Int))) (List.range n)=A4 (fun s=>2^(16-f s)) (CT c n):=by
   unfold CT
   rw [JP,←RE (fun s=>decide (0<AF c s)) (fun s:Nat=>I8 (f (s:Int))) (List.range n) fun s hs hp=>?_]
   ·refine DE _ _ _ fun s hs=>?_
    have h3:=List.mem_filter.1 hs
    have hp:(s:Int)∈CT c n:=(B3 c n s).2 ⟨by omega,by have:=h3.1;simp at this;omega,by simpa using h3.2⟩
    unfold I8;rw [if_pos (hl.top _ hp).1]
   have hp2:(s:Int)∉CT c n:=fun h=>by have:=((B3 c n s).1 h).2.2;simp at this hp;omega
   unfold I8;rw [hz _ hp2 (by omega)];rfl
  rw [h2] at h1
  have:=hl.kraft
  simp at h1 this
  omega
 have htab:A5 C S=0:=by
  refine eS ((Ew C).2 ⟨fun k hk=>?_,by omega⟩) hsm (fun s hs=>?_) (by rw [hS];exact Jm f n 16) ((H4 _).2 hnx)
  ·have:=IB f n (k+1)
   rw [hC k hk];omega
  have:=(B3 c n s).1 ((hmem s).1 hs);omega
 refine ⟨htab,fun s h0 h1=>?_,hlen,hmem⟩
 by_cases hs:s∈S
 ·obtain ⟨x,hx,rfl⟩:=fL htab hs
  rw [(TA htab hx).2]
  refine O1 f n 16 x ?_
  unfold CE at hx
  rw [hS,ON 16 hcc] at hx
  exact hx
 rw [(ZR htab s).2 hs,hz s (fun h=>hs ((hmem s).2 h)) h0]
theorem RF{α:Type}[DecidableEq α](f:α→Nat):∀(A B:List α),A.Nodup→(∀a∈A,a∈B)→A4 f A≤A4 f B
 | [],B,_,_=>by simp [A4]
 | a::A,B,hn,h=>by
   obtain ⟨h1,h2⟩:=List.nodup_cons.1 hn
   have p:=List.perm_cons_erase (h a (by simp))
   rw [Wp f p,BC,BC]
   have:=RF f A (B.erase a) h2 fun x hx=>(List.mem_erase_of_ne (fun e=>h1 (by rw [←e];exact hx))).2 (h x (by simp [hx]))
   omega
theorem UI(c:Nat→Nat):∀k,k≤16→A4 (fun x=>2^(16-x.1)) (Hs c k)=nx c k*2^(16-k)
 | 0,_=>by simp [Hs,A4,nx]
 | k+1,h=>by
   rw [PV c (k+1) h,sm,←PV c k (by omega),←UI c k (by omega),Hs,G4,JP]
   refine congrArg (_+ ·) ?_
   have:∀m,A4 (fun _:Nat=>2^(16-(k+1))) (List.range m)=m*2^(15-k):=fun m=>by
    have:=JQ (fun _:Nat=>1) (2^(15-k)) (List.range m)
    simp only [Nat.one_mul] at this
    rw [show 16-(k+1)=15-k by omega,this,Ii,List.length_range]
   exact this (c k)
theorem XH{C S:List Int}(h:A5 C S=0)(c:List Int)(n:Nat)(hall:∀s∈CT c n,s∈S):OJ c n (lw (CE C S)):=by
 obtain ⟨h1,h2,h3,h4,h5,h6⟩:=CM h
 refine ⟨fun s hs=>(ZR h s).1 (hall s hs),?_⟩
 have a1:=RF (fun s=>2^(16-lw (CE C S) s)) (CT c n) S (Mt c n) hall
 have a2:A4 (fun s=>2^(16-lw (CE C S) s)) S=A4 (fun x=>2^(16-x.2.1)) (CE C S):=by
  have e1:=JP (fun x:Int×Nat×Nat=>x.1) (fun s=>2^(16-lw (CE C S) s)) (CE C S)
  rw [VT h2] at e1
  rw [e1]
  exact DE _ _ _ fun x hx=>by rw [(TA h hx).2]
 have a3:A4 (fun x:Int×Nat×Nat=>2^(16-x.2.1)) (CE C S)=A4 (fun x=>2^(16-x.1)) (Hs (cc C) 16):=by
  rw [←eb h2,JP]
 have a4:=UI (cc C) 16 (Nat.le_refl _)
 have a5:=(H4 _).1 h6
 simp at a4
 have:(2:Nat)^16=65536:=by decide
 omega
end Go.Proofs.YtohacgmhmbijmaaGreatDoor
namespace Go.Proofs.YtohacgmhmbijmaaGreatDoor
attribute [local irreducible] Region.wanted
open Go.RowKit
set_option linter.unusedVariables false
set_option maxRecDepth 100000
set_option maxHeartbeats 8000000
structure Mk(c:List Int)(n:Nat)(C S:List Int):Prop where
 len:Ae C 16
 ok:A5 C S=0
 mem:∀s,s∈S↔s∈CT c n
 slen:S.length=(CT c n).length
 best:∀l,OJ c n l→Gy c n (lw (CE C S))≤Gy c n l
 order:∀a b,a∈CT c n→b∈CT c n→AF c b.toNat<AF c a.toNat→lw (CE C S) a≤lw (CE C S) b
 lens:OJ c n (lw (CE C S))
theorem QZ(c:List Int)(n:Nat)(f g:Int→Nat)(h:∀s:Int,0≤s→s<n→f s=g s):Gy c n f=Gy c n g:=by
 unfold Gy
 refine FB _ _ _ fun s hs=>?_
 rw [h s (by omega) (by have:=List.mem_range.1 hs;omega)]
theorem j0{c:List Int}(h:bE c=0):c.length≤256∧∀i,i<c.length→0≤AF c i∧AF c i≤9999:=by
 unfold bE at h
 by_cases h1:256<c.length
 ·rw [if_pos h1] at h;cases h
 rw [if_neg h1] at h
 by_cases h2:By c 0 9999=true
 ·exact ⟨by omega,(Aw c 0 9999).1 h2⟩
 rw [if_neg h2] at h;cases h
theorem jz{c:List Int}(h1:c.length≤256)(h2:∀i,i<c.length→0≤AF c i∧AF c i≤9999):bE c=0:=by
 unfold bE;rw [if_neg (by omega),if_pos ((Aw c 0 9999).2 h2)]
theorem Wl(w0:World)(c:List Int)(ad:Option Addr)(n cap:Nat)(hv:Sl w0 1 (.slice ad n cap) n (c.map (Value.int .i64)))(hn:n≤9223372036854775807)(hok:bE c=0):
 Calls Tryz.prog 72 #[.slice ad n cap] w0 fun e w=>∃(C S:List Int) (ao:Option Addr) (co:Nat),Mk c n C S∧e= .returned (.tuple #[tv C (.slice ao S.length co), .int .i64 0])∧St w0 w [own 3 1 ao S.length co (S.map (Value.int .i64))]:=by
 refine (ZT w0 c ad n cap hv hn hok).mono ?_
 rintro e w ⟨f,R,C,S,ao,co,hR,hf,hC,hCi,hSy,rfl,hS⟩
 have hcl:c.length=n:=by have:=hv.1;simpa using this
 obtain ⟨b1,b2⟩:=j0 hok
 rw [hcl] at b1 b2
 obtain ⟨m1,m2,m3,m4,m5⟩:=ZS b1 (fun i hi=>(b2 i hi).1) hR f hf
 obtain ⟨t1,t2,t3,t4⟩:=TB b1 m1 m2 m3 hCi hSy
 have hin:∀s∈CT c n,0≤s∧s<n:=fun s hs=>by have:=(B3 c n s).1 hs;exact ⟨this.1,this.2.1⟩
 have hcost:Gy c n (lw (CE C S))=Gy c n f:=QZ _ _ _ _ t2
 refine ⟨C,S,ao,co,⟨hC,t1,t4,t3,fun l hl=>by rw [hcost];exact m4 l hl,fun a b ha hb h=>?_,XH t1 c n fun s hs=>(t4 s).2 hs⟩,rfl,hS⟩
 rw [t2 a (hin a ha).1 (hin a ha).2,t2 b (hin b hb).1 (hin b hb).2]
 exact m5 a b ha hb h
theorem SU(w:World):(Instr.build 32 #[]).run Tryz.prog w= .ok (tv (List.replicate 16 0) (.slice none 0 0)) w:=by kernel_rfl
theorem ZU(w0:World)(c:List Int)(ad:Option Addr)(n cap:Nat)(hv:Sl w0 1 (.slice ad n cap) n (c.map (Value.int .i64)))(hn:n≤9223372036854775807)(hbad:bE c≠0):
 Calls Tryz.prog 72 #[.slice ad n cap] w0 fun e w=>e= .returned (.tuple #[tv (List.replicate 16 0) (.slice none 0 0), .int .i64 (bE c)])∧Ah w0 w:=by
 have hS:=St.start w0
 have HCK:=AD (fun (w:World)(hE:Ah w0 w)=>ME w c ad n cap (hv.ext hE) hn)
 obtain ⟨B,hB⟩:∃B,bE c=B:=⟨_,rfl⟩
 rw [hB] at HCK hbad⊢
 clear hB
 go_enter Tryz.func72,Tryz.ntmps72
 repeat' (first
  | (refine Am 102 ?_);refine An AA Tryz.call102 (HCK.out _ hS.1) (Fq hS ?_);clear hS;intro w hS;go_step|refine X0 ?_|refine Gq 22 ?_|refine SM 2 ?_;clear hS;intro g2 w hS|refine AG ?_;go_step|fail)
 repeat' (first
  | (refine AQ 23 ?_);refine Aq AA (V.build (vs:=[]) rfl SU) ?_;go_step|refine X0 ?_|refine SO ?_;clear hS;intro w hS|refine AG ?_;go_step|fail)
 refine AO (xs:=[_,_]) rfl (.cons (AC.prt hS rfl (AN (n:=17) rfl) AM (by (repeat (first|exact Bx.nil|(apply Bx.ints;(case hn=>exact D6);(case h=>omega);(case hm=>rfl))|apply Bx.val)))) (.cons (AC.tmp rfl) (.nil))) (by simp) rfl ?_
 exact ⟨rfl,hS.1⟩
theorem bI:Ae (List.replicate 16 (0:Int)) 16:=List.length_replicate
theorem bJ:A5 (List.replicate 16 0) []=0:=by decide
theorem GO:∀(T:List (Cf×Bool))(A B:List Int),ES CI T (A,B)=(0,A++(T.filter fun x=>x.2).map (·.1.1),B++(T.filter fun x=>!x.2).map (·.1.1))
 | [],A,B=>by simp [ES]
 | (t,b)::T,A,B=>by
  rw [ES,if_pos (show (CI (A,B) t b).1=0 from rfl)]
  cases b
  ·show ES CI T (A,B++[t.1])=_
   rw [GO T];simp
  show ES CI T (A++[t.1],B)=_
  rw [GO T];simp
theorem ix(l:List Int)(n:Nat):∀x∈Dz l 0 n,(x.2=true→x.1.1∈SH l n)∧(x.2=false→x.1.1∈ND l n):=by
 have h:=(LV l n).symm.trans (GO (Dz l 0 n) [] [])
 simp only [Prod.mk.injEq,List.nil_append,true_and] at h
 intro x hx
 refine ⟨fun h2=>?_,fun h2=>?_⟩
 ·rw [h.1];exact List.mem_map.2 ⟨x,List.mem_filter.2 ⟨hx,h2⟩,rfl⟩
 rw [h.2];exact List.mem_map.2 ⟨x,List.mem_filter.2 ⟨hx,by rw [h2];rfl⟩,rfl⟩
theorem KE{L:List Int}(h:L.length≤9999):bE (DP L)=0:=by
 refine jz (by rw [EQ];omega) fun i hi=>?_
 rw [EQ] at hi
 have:=IZ L hi
 omega
theorem XD{l:List Int}{n:Nat}(hl:l.length=n*64):A9 l 0 n=l:=by
 unfold A9
 rw [Nat.zero_mul,List.drop_zero,Nat.sub_zero,List.take_of_length_le (by omega)]
theorem Mz{C1 S1 C2 S2 l:List Int}{n:Nat}(h:DO C1 S1 C2 S2 l n=0):Eu C1 S1 C2 S2=0∧Bm l n=0∧A6 l n=true∧Fh (CE C1 S1) (CE C2 S2) (Dz l 0 n):=by
 have ht:Eu C1 S1 C2 S2=0:=by
  unfold DO at h
  by_cases h1:Eu C1 S1 C2 S2=0
  ·exact h1
  rw [if_neg h1] at h;exact absurd h h1
 have hb:Bm l n=0:=by
  unfold DO at h
  rw [if_pos ht] at h
  by_cases h1:Bm l n=0
  ·exact h1
  rw [if_neg h1] at h;exact absurd h h1
 refine ⟨ht,hb,?_,?_⟩
 ·unfold Bm at hb
  split at hb
  ·cases hb
  cases h1:A6 l n
  ·rw [h1] at hb;cases hb
  rfl
 by_cases h1:Fh (CE C1 S1) (CE C2 S2) (Dz l 0 n)
 ·exact h1
 have:=PB (CE C1 S1) (CE C2 S2) _ [] h1
 unfold DO at h
 rw [if_pos ht,if_pos hb,this] at h
 cases h
theorem U7{C1 S1 C2 S2 l:List Int}{n:Nat}(ht:Eu C1 S1 C2 S2=0)(hb:Bm l n=0)(hw:Fh (CE C1 S1) (CE C2 S2) (Dz l 0 n)):DO C1 S1 C2 S2 l n=0:=by
 unfold DO
 rw [if_pos ht,if_pos hb,JF _ _ _ [] hw]
theorem RZ{C1 S1 C2 S2 l:List Int}{n:Nat}(ht:Eu C1 S1 C2 S2=0)(hb:Bm l n=0)(hw:¬Fh (CE C1 S1) (CE C2 S2) (Dz l 0 n)):DO C1 S1 C2 S2 l n=5:=by
 unfold DO
 rw [if_pos ht,if_pos hb,PB _ _ _ [] hw]
theorem W7{C1 S1 C2 S2 l:List Int}{n:Nat}(hl:l.length=n*64)(h0:DO C1 S1 C2 S2 l n=0):IM C1 S1 C2 S2 (EL C1 S1 C2 S2 l n) (n:Int)=(0,l):=by
 obtain ⟨ht,hb,hall,hw⟩:=Mz h0
 obtain ⟨t1,t2⟩:=Jn ht
 have hbk:=Yg (CC t1) (CC t2) hl hall hw
 have hsb:EL C1 S1 C2 S2 l n=EX (Gw (bytesOf ((Dz l 0 n).flatMap (Bl (CE C1 S1) (CE C2 S2))))):=by
  unfold EL CD
  rw [if_pos h0,JF _ _ _ [] hw,List.nil_append]
 have hn:=I9 hb
 unfold IM
 rw [if_pos ht,if_pos (by omega),hsb,dL (E8 _)]
 dsimp only
 rw [Int.toNat_natCast]
 exact hbk
def N5:List (List Int)→Nat→List Int
 | [],_=>[]
 | p::ps,k=>(if k=0 then [] else [255,((208+(k-1)%8:Nat):Int)])++(p++N5 ps (k+1))
noncomputable def Fm(C1 S1 C2 S2 l:List Int)(L:List (Nat×Nat)):List (List Int):=L.map fun x=>EL C1 S1 C2 S2 (A9 l x.1 x.2) (x.2-x.1)
theorem Yr(C1 S1 C2 S2 l:List Int):∀(L:List (Nat×Nat))(k:Nat),(∀x∈L,DO C1 S1 C2 S2 (A9 l x.1 x.2) (x.2-x.1)=0)→Hv C1 S1 C2 S2 l L k=(0,N5 (Fm C1 S1 C2 S2 l L) k)
 | [],k,_=>rfl
 | x::L,k,h=>by
   have h1:=h x (by simp)
   have ih:=Yr C1 S1 C2 S2 l L (k+1) (fun y hy=>h y (by simp [hy]))
   rw [Hv,if_neg (by rw [h1];decide),ih]
   rfl
def Wo(k n:Nat):List Int:=(List.range n).map fun i=>((208+(k+i)%8:Nat):Int)
theorem ZY(k n:Nat):Wo k (n+1)=((208+k%8:Nat):Int)::Wo (k+1) n:=by
 unfold Wo
 rw [List.range_succ_eq_map,List.map_cons,List.map_map]
 congr 1
 refine List.map_congr_left fun i _=>?_
 simp only [Function.comp_apply]
 rw [show k+(i+1)=k+1+i by omega]
theorem M8:∀(c:List Int)(o:List (List Int))(ms p r:List Int)(m:Int),m≠0→m≠255→Ek (EX c++255::m::r) o ms p=Ek r (o++[p++EX c]) (ms++[m]) []
 | [],o,ms,p,r,m,h0,h1=>by
   rw [Lk,List.nil_append,List.append_nil,Ek.eq_def]
   simp only [if_true]
   rw [if_neg h1,if_neg h0]
 | x::c,o,ms,p,r,m,h0,h1=>by
   rw [Ed]
   by_cases h:x=255
   ·subst h
    rw [if_pos rfl,Ek.eq_def]
    simp only [List.cons_append,List.nil_append,if_true]
    rw [if_neg (by decide),M8 c _ _ _ _ _ h0 h1]
    simp
   rw [if_neg h,Ek.eq_def]
   simp only [List.cons_append,List.nil_append]
   rw [if_neg h,M8 c _ _ _ _ _ h0 h1]
   simp
theorem aQ:∀(ps:List (List Int))(p:List Int)(k:Nat)(o:List (List Int))(ms:List Int),(∃c,p=EX c)→(∀q∈ps,∃c,q=EX c)→Ek (p++N5 ps (k+1)) o ms []=some (o++p::ps,ms++Wo k ps.length)
 | [],p,k,o,ms,⟨c,hc⟩,_=>by
   rw [N5,List.append_nil,hc,Jj]
   simp [Wo]
 | q::ps,p,k,o,ms,⟨c,hc⟩,h=>by
   have e:p++N5 (q::ps) (k+1)=EX c++255::((208+k%8:Nat):Int)::(q++N5 ps (k+1+1)):=by
    rw [N5,if_neg (by omega),hc,Nat.add_sub_cancel]
    simp
   rw [e,M8 _ _ _ _ _ _ (by omega) (by omega),aQ ps q (k+1) _ _ (h q (by simp)) (fun x hx=>h x (by simp [hx])),List.length_cons,ZY,List.nil_append,←hc]
   simp
theorem eJ{ps:List (List Int)}(h:∀q∈ps,∃c,q=EX c)(h0:ps≠[]):Ek (N5 ps 0) [] [] []=some (ps,Wo 0 (ps.length-1)):=by
 cases ps with
 | nil=>exact absurd rfl h0
 | cons p ps=>
   rw [N5,if_pos rfl,List.nil_append,aQ ps p 0 [] [] (h p (by simp)) (fun x hx=>h x (by simp [hx]))]
   simp
theorem df{k n i:Nat}(h:i<n):AF (Wo k n) i=((208+(k+i)%8:Nat):Int):=by
 unfold Wo AF List.getD
 rw [List.getElem?_map,List.getElem?_range h];rfl
theorem iS(n:Nat):KN (Wo 0 n) (Wo 0 n).length=true:=by
 have hl:(Wo 0 n).length=n:=by simp [Wo]
 unfold KN
 rw [List.all_eq_true,hl]
 intro k hk
 have hk:=List.mem_range.1 hk
 rw [df hk,Nat.zero_add]
 simp
theorem ir(n every:Nat):Bo n every≠[]:=by
 unfold Bo
 by_cases h:every=0∨n=0
 ·rw [if_pos h];simp
 rw [if_neg h]
 obtain ⟨m,rfl⟩:∃m,n=m+1:=⟨n-1,by omega⟩
 rw [Ec,if_pos (by omega)]
 simp
theorem Et{l:List Int}{n f t:Nat}(hl:l.length=n*64)(hft:f≤t)(ht:t≤n):(A9 l f t).length=(t-f)*64:=by
 unfold A9
 rw [List.length_take,List.length_drop,hl]
 have h1:(t-f)*64≤n*64-f*64:=by rw [←Nat.sub_mul];exact Nat.mul_le_mul_right 64 (by omega)
 omega
theorem Qd{l:List Int}{n f t:Nat}(hl:l.length=n*64)(hft:f≤t)(ht:t≤n):A9 l f t++l.drop (t*64)=l.drop (f*64):=by
 have h1:t*64=f*64+(t-f)*64:=by omega
 unfold A9
 rw [h1,←List.drop_drop,List.take_append_drop]
theorem M9{l:List Int}{n every:Nat}(hl:l.length=n*64)(he:0<every):∀(f a:Nat),n≤a+f*every→a≤n∨n≤a→(Ec n every f a).flatMap (fun x=>A9 l x.1 x.2)=l.drop (a*64)
 | 0,a,h,_=>by
   rw [Ec,List.drop_of_length_le (by rw [hl];omega)];rfl
 | f+1,a,h,_=>by
   rw [Ec]
   by_cases h0:a<n
   ·rw [if_pos h0,List.flatMap_cons]
    by_cases h1:a+every≤n
    ·rw [Nat.min_eq_left h1,M9 hl he f (a+every) (by rw [Nat.add_mul,Nat.one_mul] at h;omega) (by omega)]
     exact Qd hl (by omega) h1
    rw [Nat.min_eq_right (by omega),M9 hl he f (a+every) (by rw [Nat.add_mul,Nat.one_mul] at h;omega) (by omega),List.drop_of_length_le (i:=(a+every)*64) (by rw [hl];omega)]
    have:=Qd hl (f:=a) (t:=n) (by omega) (Nat.le_refl _)
    rw [List.drop_of_length_le (i:=n*64) (by omega)] at this
    exact this
   rw [if_neg h0,List.drop_of_length_le (by rw [hl];omega)];rfl
theorem VC{l:List Int}{n:Nat}(every:Nat)(hl:l.length=n*64):(Bo n every).flatMap (fun x=>A9 l x.1 x.2)=l:=by
 unfold Bo
 by_cases h:every=0∨n=0
 ·rw [if_pos h]
  simp [XD hl]
 rw [if_neg h,M9 hl (by omega) n 0 (by have:=Nat.le_mul_of_pos_right n (show 0<every by omega);omega) (by omega)]
 simp
theorem aA(C1 S1 C2 S2 l:List Int){n:Nat}(hl:l.length=n*64):∀(L:List (Nat×Nat)),(∀x∈L,x.1≤x.2∧x.2≤n)→(∀x∈L,DO C1 S1 C2 S2 (A9 l x.1 x.2) (x.2-x.1)=0)→OC C1 S1 C2 S2 L (Fm C1 S1 C2 S2 l L)=(0,L.flatMap fun x=>A9 l x.1 x.2)
 | [],_,_=>rfl
 | x::L,h1,h2=>by
   have ih:=aA C1 S1 C2 S2 l hl L (fun y hy=>h1 y (by simp [hy])) (fun y hy=>h2 y (by simp [hy]))
   obtain ⟨a1,a2⟩:=h1 x (by simp)
   have hb:=W7 (Et hl a1 a2) (h2 x (by simp))
   have e:Fm C1 S1 C2 S2 l (x::L)=EL C1 S1 C2 S2 (A9 l x.1 x.2) (x.2-x.1)::Fm C1 S1 C2 S2 l L:=rfl
   rw [e,OC,List.headD_cons,List.tail_cons,hb,ih]
   rw [if_neg (by simp)]
   rfl
theorem Zo{C1 S1 C2 S2 l:List Int}{L:List (Nat×Nat)}(h2:∀x∈L,DO C1 S1 C2 S2 (A9 l x.1 x.2) (x.2-x.1)=0):∀q∈Fm C1 S1 C2 S2 l L,∃c,q=EX c:=by
 intro q hq
 obtain ⟨x,hx,rfl⟩:=List.mem_map.1 hq
 exact ⟨Gw (bytesOf (CD C1 S1 C2 S2 (A9 l x.1 x.2) (x.2-x.1))),by unfold EL;rw [if_pos (h2 x hx)]⟩
def Pi(C1 S1 C2 S2 l:List Int)(n every:Nat):Prop:=∀x∈Bo n every,DO C1 S1 C2 S2 (A9 l x.1 x.2) (x.2-x.1)=0
theorem eA{C1 S1 C2 S2 l:List Int}{n every:Nat}(he:every≤100)(ht:Eu C1 S1 C2 S2=0)(hb:Bm l n=0)(h:Pi C1 S1 C2 S2 l n every):Gl C1 S1 C2 S2 l n every=(0,N5 (Fm C1 S1 C2 S2 l (Bo n every)) 0):=by
 unfold Gl
 rw [if_pos (by omega),if_pos ht,if_pos hb,Int.toNat_natCast,Yr _ _ _ _ _ _ _ h,if_pos rfl]
theorem Zn{C1 S1 C2 S2 l:List Int}{n every:Nat}(h:Pi C1 S1 C2 S2 l n every):Ek (N5 (Fm C1 S1 C2 S2 l (Bo n every)) 0) [] [] []=some (Fm C1 S1 C2 S2 l (Bo n every),Wo 0 ((Bo n every).length-1)):=by
 have h1:=eJ (Zo h) (by unfold Fm;rw [Ne,List.map_eq_nil_iff];exact ir n every)
 rw [h1]
 unfold Fm
 rw [List.length_map]
theorem iZ{C1 S1 C2 S2 b:List Int}{n every:Nat}{y:List (List Int)×List Int}(he:every≤100)(hn:n≤400)(ht:Eu C1 S1 C2 S2=0)(h:Ek b [] [] []=some y):RO C1 S1 C2 S2 b n every=0:=by
 unfold RO
 rw [if_pos (show KP (n:Int) (every:Int) by unfold KP;omega),if_pos ht]
 unfold ip
 rw [h]
theorem Z9{C1 S1 C2 S2 l:List Int}{n every:Nat}(hl:l.length=n*64)(he:every≤100)(hn:n≤400)(ht:Eu C1 S1 C2 S2=0)(h:Pi C1 S1 C2 S2 l n every):
 SF C1 S1 C2 S2 (N5 (Fm C1 S1 C2 S2 l (Bo n every)) 0) n every=(0,l):=by
 have hs:=Zn h
 have hw:QG C1 S1 C2 S2 (N5 (Fm C1 S1 C2 S2 l (Bo n every)) 0) n every=0:=by
  unfold QG
  rw [if_pos (iZ he hn ht hs),hs]
  dsimp only
  rw [Int.toNat_natCast,Int.toNat_natCast,if_pos (by unfold Fm;rw [List.length_map]),iS]
  rfl
 have hd:=aA C1 S1 C2 S2 l hl (Bo n every) (Hj n every) h
 unfold SF
 rw [if_pos hw,hs]
 dsimp only
 rw [Int.toNat_natCast,Int.toNat_natCast,hd,if_pos rfl,VC every hl]
theorem TD{F R C1 S1 C2 S2 l:List Int}{n:Nat}(hl:l.length=n*64)(h1:Mk (DP F) 256 C1 S1)(h2:Mk (DP R) 256 C2 S2)(hF:∀x∈SH l n,x∈F)(hR:∀x∈ND l n,x∈R):Fh (CE C1 S1) (CE C2 S2) (Dz l 0 n):=by
 intro x hx
 have hok:=(Jo hl n 0 (by omega)).1 x hx
 obtain ⟨⟨r1,r2⟩,_⟩:=hok
 obtain ⟨k1,k2⟩:=ix l n x hx
 have key:∀(L:List Int),x.1.1∈L→x.1.1∈CT (DP L) 256:=fun L hL=>by
  rw [B3]
  refine ⟨r1,by omega,?_⟩
  rw [Eo _ (by omega)]
  have h3:(((x.1.1.toNat:Nat)):Int)=x.1.1:=by omega
  rw [h3]
  have:=List.count_pos_iff.2 hL
  omega
 obtain ⟨t,b⟩:=x
 cases b
 ·show (symW (CE C2 S2) t.1).isSome=true
  exact (Ri h2.ok _).2 ((h2.mem _).2 (key _ (hR _ (k2 rfl))))
 show (symW (CE C1 S1) t.1).isSome=true
 exact (Ri h1.ok _).2 ((h1.mem _).2 (key _ (hF _ (k1 rfl))))
def XA(l:List Int)(L:List (Nat×Nat)):List Int:=L.flatMap fun x=>SH (A9 l x.1 x.2) (x.2-x.1)
def aN(l:List Int)(L:List (Nat×Nat)):List Int:=L.flatMap fun x=>ND (A9 l x.1 x.2) (x.2-x.1)
theorem Oi{l:List Int}{f t k:Nat}(hk:k<t-f):BY (A9 l f t) 64 k=BY l 64 (f+k):=by
 unfold A9
 rw [aF hk,Hg]
theorem FJ{l:List Int}{n f t:Nat}(h:A6 l n=true)(hft:f≤t)(ht:t≤n):A6 (A9 l f t) (t-f)=true:=by
 unfold A6
 rw [List.all_eq_true]
 intro k hk
 have hk:=List.mem_range.1 hk
 rw [Oi hk]
 exact EE h (by omega)
theorem Hr{l:List Int}{n:Nat}(hn:n≤400)(h:A6 l n=true):Bm l n=0:=by
 unfold Bm
 rw [if_neg (by omega),if_pos h]
theorem Of{C1 S1 C2 S2 l:List Int}{n every:Nat}(hl:l.length=n*64)(hn:n≤400)(h:A6 l n=true)(h1:Mk (DP (XA l (Bo n every))) 256 C1 S1)(h2:Mk (DP (aN l (Bo n every))) 256 C2 S2):Pi C1 S1 C2 S2 l n every:=by
 intro x hx
 obtain ⟨a1,a2⟩:=Hj n every x hx
 have ht:Eu C1 S1 C2 S2=0:=by unfold Eu;rw [if_pos h1.ok];exact h2.ok
 exact U7 ht (Hr (by omega) (FJ h a1 a2)) (TD (Et hl a1 a2) h1 h2 (fun y hy=>List.mem_flatMap.2 ⟨x,hx,hy⟩) (fun y hy=>List.mem_flatMap.2 ⟨x,hx,hy⟩))
def kr(x:List Int):List Int:=(Is 0 ((Ez x).drop 1)).map (·.1)
theorem eV{l:List Int}{n k:Nat}(hl:l.length=n*64)(h:A6 l n=true)(hk:k<n):((XJ l k).drop 1).map (·.1)=kr (BY l 64 k):=by
 rw [(aX hl h hk).2]
 rfl
theorem VH{l:List Int}{n:Nat}(hl:l.length=n*64)(h:A6 l n=true):ND l n=(List.range' 0 n).flatMap fun k=>kr (BY l 64 k):=by
 unfold ND
 rw [List.range_eq_range',List.flatMap_def,List.flatMap_def]
 congr 1
 refine List.map_congr_left fun k hk=>?_
 exact eV hl h (by have:=List.mem_range'_1.1 hk;omega)
theorem eP{l:List Int}{n f t:Nat}(hl:l.length=n*64)(h:A6 l n=true)(hft:f≤t)(ht:t≤n):ND (A9 l f t) (t-f)=(List.range' f (t-f)).flatMap fun k=>kr (BY l 64 k):=by
 rw [VH (Et hl hft ht) (FJ h hft ht),List.flatMap_def,List.flatMap_def]
 congr 1
 have e:List.range' f (t-f)=(List.range' 0 (t-f)).map (f+ ·):=by rw [List.map_add_range'];rfl
 rw [e,List.map_map]
 refine List.map_congr_left fun k hk=>?_
 have hk:=List.mem_range'_1.1 hk
 simp only [Function.comp_apply]
 rw [Oi (by omega)]
theorem NA(g:Nat→List Int){n every:Nat}(he:0<every):∀(f a:Nat),n≤a+f*every→(Ec n every f a).flatMap (fun x=>(List.range' x.1 (x.2-x.1)).flatMap g)=(List.range' a (n-a)).flatMap g
 | 0,a,h=>by rw [Ec,show n-a=0 by omega];rfl
 | f+1,a,h=>by
   rw [Ec]
   by_cases h0:a<n
   ·rw [if_pos h0,List.flatMap_cons]
    by_cases h1:a+every≤n
    ·rw [Nat.min_eq_left h1,NA g he f (a+every) (by rw [Nat.add_mul,Nat.one_mul] at h;omega)]
     dsimp only
     rw [←List.flatMap_append,Nat.add_sub_cancel_left,List.range'_append_1,show every+(n-(a+every))=n-a by omega]
    rw [Nat.min_eq_right (by omega),NA g he f (a+every) (by rw [Nat.add_mul,Nat.one_mul] at h;omega)]
    dsimp only
    rw [show n-(a+every)=0 by omega]
    simp
   rw [if_neg h0,show n-a=0 by omega];rfl
theorem VF(g:Nat→List Int)(n every:Nat):(Bo n every).flatMap (fun x=>(List.range' x.1 (x.2-x.1)).flatMap g)=(List.range' 0 n).flatMap g:=by
 unfold Bo
 by_cases h:every=0∨n=0
 ·rw [if_pos h];simp
 rw [if_neg h,NA g (by omega) n 0 (by have:=Nat.le_mul_of_pos_right n (show 0<every by omega);omega)]
 simp
theorem aO{l:List Int}{n:Nat}(every:Nat)(hl:l.length=n*64)(h:A6 l n=true):aN l (Bo n every)=ND l n:=by
 rw [VH hl h,←VF _ n every]
 unfold aN
 rw [List.flatMap_def,List.flatMap_def]
 congr 1
 refine List.map_congr_left fun x hx=>?_
 obtain ⟨a1,a2⟩:=Hj n every x hx
 exact eP hl h a1 a2
theorem Ih:∀L:List Nat,(L.flatMap fun _:Nat=>[(0:Int)]).length=L.length
 | []=>rfl
 | x::L=>by rw [List.flatMap_cons,List.length_append,Ih L];simp;omega
theorem eH{l:List Int}{n:Nat}(every:Nat):(XA l (Bo n every)).length≤n:=by
 have h1:∀(l:List Int)(k:Nat),(SH l k).length≤k:=fun l k=>by
  induction k with
  | zero=>simp [SH]
  | succ k ih=>
    rw [NC,List.length_append,List.length_map,List.length_take]
    omega
 have h2:∀L:List (Nat×Nat),(XA l L).length≤(L.flatMap fun x=>(List.range' x.1 (x.2-x.1)).flatMap fun _:Nat=>[(0:Int)]).length:=fun L=>by
  induction L with
  | nil=>simp [XA]
  | cons x L ih=>
    unfold XA at ih⊢
    rw [List.flatMap_cons,List.flatMap_cons,List.length_append,List.length_append]
    have e:=Ih (List.range' x.1 (x.2-x.1))
    rw [List.length_range'] at e
    have:=h1 (A9 l x.1 x.2) (x.2-x.1)
    rw [e]
    omega
 refine Nat.le_trans (h2 _) ?_
 rw [VF (fun _:Nat=>[(0:Int)]),Ih,List.length_range']
 exact Nat.le_refl _
theorem ax(C:List Int):CE C []=[]:=by unfold CE;simp
theorem aV(s:Int):symW [] s=none:=by unfold symW;rfl
theorem Qi{C1 S1 C2 S2 l:List Int}:∀(L:List (Nat×Nat))(k:Nat),(∀x∈L,DO C1 S1 C2 S2 (A9 l x.1 x.2) (x.2-x.1)=0∨DO C1 S1 C2 S2 (A9 l x.1 x.2) (x.2-x.1)=5)→(∃x∈L,DO C1 S1 C2 S2 (A9 l x.1 x.2) (x.2-x.1)=5)→(Hv C1 S1 C2 S2 l L k).1=5
 | [],k,_,⟨x,hx,_⟩=>by cases hx
 | x::L,k,h,⟨y,hy,h5⟩=>by
   rw [Hv]
   rcases h x (by simp) with h0|h0
   ·rw [if_neg (by rw [h0];decide)]
    dsimp only
    refine Qi L (k+1) (fun z hz=>h z (by simp [hz])) ?_
    rcases List.mem_cons.1 hy with rfl|hy
    ·rw [h0] at h5;cases h5
    exact ⟨y,hy,h5⟩
   rw [if_pos (by rw [h0];decide),h0]
theorem W5{C1 S1 C2 l:List Int}{n every:Nat}(hl:l.length=n*64)(hn:n≤400)(he:every≤100)(h:A6 l n=true)(ht1:A5 C1 S1=0)(ht2:A5 C2 []=0)(hR:ND l n≠[]):Gl C1 S1 C2 [] l n every=(5,[]):=by
 have ht:Eu C1 S1 C2 []=0:=by unfold Eu;rw [if_pos ht1];exact ht2
 have hb:=Hr hn h
 have h5:(Hv C1 S1 C2 [] l (Bo n every) 0).1=5:=by
  refine Qi _ _ (fun x hx=>?_) ?_
  ·obtain ⟨a1,a2⟩:=Hj n every x hx
   have hb':=Hr (show x.2-x.1≤400 by omega) (FJ h a1 a2)
   by_cases hw:Fh (CE C1 S1) (CE C2 []) (Dz (A9 l x.1 x.2) 0 (x.2-x.1))
   ·exact .inl (U7 ht hb' hw)
   exact .inr (RZ ht hb' hw)
  rw [←aO every hl h] at hR
  obtain ⟨y,hy⟩:∃y,y∈aN l (Bo n every):=List.exists_mem_of_ne_nil _ hR
  obtain ⟨x,hx,hy⟩:=List.mem_flatMap.1 hy
  refine ⟨x,hx,?_⟩
  obtain ⟨a1,a2⟩:=Hj n every x hx
  have hb':=Hr (show x.2-x.1≤400 by omega) (FJ h a1 a2)
  refine RZ ht hb' fun hw=>?_
  have hc:=LV (A9 l x.1 x.2) (x.2-x.1)
  rw [GO] at hc
  simp only [List.nil_append,Prod.mk.injEq,true_and] at hc
  rw [←hc.2] at hy
  obtain ⟨z,hz,rfl⟩:=List.mem_map.1 hy
  obtain ⟨hz1,hz2⟩:=List.mem_filter.1 hz
  have:=hw z hz1
  rw [ax] at this
  have hz3:z.2=false:=by simpa using hz2
  rw [hz3,if_neg (by decide),aV] at this
  cases this
 unfold Gl
 rw [if_pos (by omega),if_pos ht,if_pos hb,Int.toNat_natCast,if_neg (by rw [h5];decide),h5]
theorem YM{l:List Int}{n:Nat}(every:Nat)(hn:n≤400):bE (DP (XA l (Bo n every)))=0:=KE (Nat.le_trans (eH every) (by omega))
theorem Wg(l:List Int):(Value.agg (iv l))=Value.agg (AH [.ints l]).toArray:=by simp [AH,Ag.cells,iv]
theorem Mp(a b:List Ag):AH (a++b)=AH a++AH b:=by
 induction a with
 | nil=>rfl
 | cons x a ih=>rw [List.cons_append,AH,AH,ih,List.append_assoc]
inductive J6(ss:List Ag):List Ag→Nat→List Ag→Prop
 | head {B D:List Ag} (hb:(AH B).length=(AH ss).length):J6 ss (B++D) 0 (ss++D)
 | skipI {l:List Int} {ps ps':List Ag} {off n o2:Nat} (hn:Ae l n) (h:n≤off) (ho:off-n=o2) (t:J6 ss ps o2 ps'):J6 ss (.ints l::ps) off (.ints l::ps')
 | skipV {v:Value} {ps ps':List Ag} {off:Nat} (t:J6 ss ps off ps'):J6 ss (.val v::ps) (off+1) (.val v::ps')
theorem J6.eq{ss ps ps':List Ag}{off:Nat}(h:J6 ss ps off ps'):∃A B D:List Value,AH ps=A++(B++D)∧AH ps'=A++(AH ss++D)∧A.length=off∧B.length=(AH ss).length:=by
 induction h with
 | @head B D hb=>exact ⟨[],AH B,AH D,by rw [Mp];rfl,by rw [Mp];rfl,rfl,hb⟩
 | @skipI l ps ps' off n o2 hn h ho t ih=>
   obtain ⟨A,B,D,e1,e2,e3,e4⟩:=ih
   have hl:=hn.out
   exact ⟨l.map (Value.int .i64)++A,B,D,by rw [AH,e1,List.append_assoc];rfl,by rw [AH,e2,List.append_assoc];rfl,by simp;omega,e4⟩
 | @skipV v ps ps' off t ih=>
   obtain ⟨A,B,D,e1,e2,e3,e4⟩:=ih
   exact ⟨v::A,B,D,by rw [AH,e1];rfl,by rw [AH,e2];rfl,by simp [e3],e4⟩
theorem Og(g:Nat):∀(vs B A D:List Value)(w:World),Nh w g (A++(B++D)).toArray→B.length=vs.length→Nh (w.setCells g A.length vs) g (A++(vs++D)).toArray∧E4 [g] w (w.setCells g A.length vs)
 | [],[],A,D,w,h,_=>⟨h,⟨rfl,rfl,rfl,Nat.le_refl _,fun _ _ _=>rfl⟩⟩
 | [],_::_,A,D,w,h,hl=>by simp at hl
 | _::_,[],A,D,w,h,hl=>by simp at hl
 | v::vs,b::B,A,D,w,h,hl=>by
   have h1:=h.set A.length v
   have e1:((A++(b::B++D)).toArray).setIfInBounds A.length v=((A++[v])++(B++D)).toArray:=by
    simp
   rw [e1] at h1
   obtain ⟨h2,h3⟩:=Og g vs B (A++[v]) D _ h1 (by simpa using hl)
   have e2:w.setCells g A.length (v::vs)=(w.setCell ⟨g,A.length,none⟩ v).setCells g (A++[v]).length vs:=by
    rw [World.setCells,List.length_append];rfl
   rw [e2]
   refine ⟨by simpa using h2,?_⟩
   have h4:=E4.setCell w ⟨g,A.length,none⟩ v
   exact ⟨h3.os.trans h4.os,h3.tape.trans h4.tape,h3.output.trans h4.output,Nat.le_trans h4.size h3.size,fun k hk hm=>(h3.block k (Nat.lt_of_lt_of_le hk h4.size) hm).trans (h4.block k hk hm)⟩
section
variable{P:Program}{W w:World}{rs rs':List Au}{Q:Exit→Act→World→Prop}{K:Act→World→Prop}{o:Oper}{a:Act}
theorem FO(hS:St W w rs)(ty:TypeId)(x y:Operand)(ho:o.op= .store ty x y)(g off:Nat)(hx:a.eval x= .pointer (some ⟨g,off,none⟩))(m:Nat)(h1:Fi P ty m)(ps ps' ss:List Ag)(hp:AW (prt g ps) rs rs')
 (hy:a.eval y= .agg (AH ss).toArray) (hr:J6 ss ps off ps') (hm:(AH ss).length=m) (hv:ss.all PY=true) (hd:o.dst=none) (h:∀w',St W w' (prt g ps'::rs')→K a w'):o.wp P a w K Q:=by
 obtain ⟨A,B,D,e1,e2,e3,e4⟩:=hr.eq
 subst e3
 have hb:=(hS.blk hp).1
 rw [e1] at hb
 obtain ⟨h2,h3⟩:=Og g (AH ss) B A D w hb e4
 refine wp_store_mid ty x y ho g A.length (AH ss).toArray hx hy ?_ (by rw [h1.2];simp [hm]) (by simpa using Hy hv) ?_
 ·intro j hj
  rw [List.size_toArray] at hj
  refine ⟨?_,hb.free _⟩
  rw [hb.cell]
  have:A.length+j<(A++(B++D)).toArray.size:=by simp;omega
  rw [Array.getElem?_eq_getElem this];rfl
 rw [show a.put o.dst undef=a by rw [hd];rfl]
 refine h _ ?_
 refine St.change (rs1:=[prt g ps']) (hS.pull hp) fun f1 k1 _ _=>?_
 obtain ⟨rfl,_⟩:=k1
 refine ⟨[g],⟨[g],[],rfl,⟨rfl,?_⟩,rfl⟩,by simp,fun b hb=> .inl hb,h3⟩
 rw [e2];exact h2
end
theorem Z0{C1 C C2:List Int}{v1 v v2:Value}(hC1:Ae C1 16)(hC:Ae C 16):J6 [.ints C, .val v] [.ints C1, .val v1, .ints C2, .val v2] 0 [.ints C, .val v, .ints C2, .val v2]:=
 .head (B:=[.ints C1, .val v1]) (D:=[.ints C2, .val v2]) (by simp [AH,Ag.cells,hC1.out,hC.out])
theorem Z1{C1 C C2:List Int}{v1 v v2:Value}(hC1:Ae C1 16)(hC2:Ae C2 16)(hC:Ae C 16):J6 [.ints C, .val v] [.ints C1, .val v1, .ints C2, .val v2] 17 [.ints C1, .val v1, .ints C, .val v]:=
 .skipI hC1 (by omega) rfl (.skipV (.head (B:=[.ints C2, .val v2]) (D:=[]) (by simp [AH,Ag.cells,hC2.out,hC.out])))
theorem aM{l:List Int}{L:List (Nat×Nat)}{k:Nat}{x:Nat×Nat}(hx:L[k]? =some x):XA l (L.take (k+1))=XA l (L.take k)++SH (A9 l x.1 x.2) (x.2-x.1):=by
 obtain ⟨hk,e⟩:=List.getElem?_eq_some_iff.1 hx
 rw [List.take_succ_eq_append_getElem hk,e]
 unfold XA
 rw [List.flatMap_append]
 simp
theorem aP{l:List Int}{L:List (Nat×Nat)}{k:Nat}{x:Nat×Nat}(hx:L[k]? =some x):aN l (L.take (k+1))=aN l (L.take k)++ND (A9 l x.1 x.2) (x.2-x.1):=by
 obtain ⟨hk,e⟩:=List.getElem?_eq_some_iff.1 hx
 rw [List.take_succ_eq_append_getElem hk,e]
 unfold aN
 rw [List.flatMap_append]
 simp
theorem RB(w0:World)(c:List Int)(ad:Option Addr)(n cap:Nat)(hv:Sl w0 1 (.slice ad n cap) n (c.map (Value.int .i64)))(hn:n≤9223372036854775807):
 Calls Tryz.prog 72 #[.slice ad n cap] w0 fun e w=>∃(C S:List Int) (ao:Option Addr) (m co:Nat),Ae C 16∧S.length=m∧m≤256∧A5 C S=0∧(bE c=0→Mk c n C S)∧(bE c≠0→S=[])∧e= .returned (.tuple #[tv C (.slice ao m co), .int .i64 (bE c)])∧St w0 w [own 3 1 ao m co (S.map (Value.int .i64))]:=by
 by_cases hb:bE c=0
 ·refine (Wl w0 c ad n cap hv hn hb).mono ?_
  rintro e w ⟨C,S,ao,co,hM,rfl,hS⟩
  exact ⟨C,S,ao,S.length,co,hM.len,rfl,(CM hM.ok).2.2.1,hM.ok,fun _=>hM,fun h=>absurd hb h,by rw [hb],hS⟩
 refine (ZU w0 c ad n cap hv hn hb).mono ?_
 rintro e w ⟨rfl,hE⟩
 exact ⟨_,[],none,0,0,bI,rfl,by omega,bJ,fun h=>absurd h hb,fun _=>rfl,rfl,(St.of_ext hE).nil _ _⟩
def Ve(w0:World)(F R:List Int)(e:Ending)(w:World):Prop:=
 ∃(C1 S1 C2 S2:List Int) (a1 a2:Option Addr) (m1 k1 m2 k2:Nat),Ae C1 16∧Ae C2 16∧S1.length=m1∧S2.length=m2∧m1≤256∧m2≤256∧A5 C1 S1=0∧A5 C2 S2=0∧(bE (DP F)=0→Mk (DP F) 256 C1 S1)∧(bE (DP R)=0→Mk (DP R) 256 C2 S2)∧(bE (DP R)≠0→S2=[])∧
  e= .returned (.agg (AH [.ints C1, .val (.slice a1 m1 k1), .ints C2, .val (.slice a2 m2 k2)]).toArray)∧St w0 w [own 3 1 a1 m1 k1 (S1.map (Value.int .i64)),own 3 1 a2 m2 k2 (S2.map (Value.int .i64))]
theorem Gb(w0:World)(ad:Option Addr)(n c:Nat)(l:List Int)(every:Nat)(hn:n≤400)(he:every≤100)(hb:A6 l n=true)(hv:Sl w0 64 (.slice ad n c) n (l.map (Value.int .i64))):
 Calls Tryz.prog 41 #[.slice ad n c, .int .i64 every] w0 (Ve w0 (XA l (Bo n every)) (aN l (Bo n every))):=by
 have hl:l.length=n*64:=by have:=hv.1;simpa using this
 have HL:=AD hl
 have HAB:=AD hb
 have hnc:n≤c:=by
  obtain ⟨_,a',c',e,h1,_⟩:=hv
  cases e;exact h1
 clear hl hb
 have hpsl:=Re n every
 obtain ⟨P,hP⟩:∃P,Bo n every=P:=⟨_,rfl⟩
 have hin:=VD n every
 rw [hP] at hpsl hin⊢
 have HIN:=AD hin
 have HPE:=AD hP
 obtain ⟨m8,hm8⟩:∃m,P.length=m:=⟨_,rfl⟩
 rw [hm8] at hpsl
 have HM8:=AD hm8
 clear hP hin hm8
 have hS:=St.start w0
 go_enter Tryz.func41,Tryz.ntmps41
 repeat' (first
  | (refine AQ 4 ?_);(refine Ad ?_;apply IE (o:=⟨some 4,_,_,_,_,_⟩) hS 34 rfl _ k7;clear hS;intro g4 w hS;refine AB ?_;go_step)|refine AG ?_;go_step|fail)
 replace hS:St w0 _ [prt g4 [.ints (List.replicate 16 0), .val (.slice none 0 0), .ints (List.replicate 16 0), .val (.slice none 0 0)]]:=hS
 apply R3 (rs:=fun g13 g14=>[own 3 1 (some ⟨g13,0,none⟩) 256 256 ((DP []).map (Value.int .i64)),own 3 1 (some ⟨g14,0,none⟩) 256 256 ((DP []).map (Value.int .i64)),prt g4 [.ints (List.replicate 16 0), .val (.slice none 0 0), .ints (List.replicate 16 0), .val (.slice none 0 0)]])
 ·refine AP [] (fun _=>True) AA ?_
  replace hS:=hS.drew
  focus
   refine Ay [0,1] AA (by simp) (.cons Ai AA ?_ (.cons Ai AA ?_ (.nil)))
   rotate_left 1
   focus
    refine Y2 ?_;clear hS;intro g14 w hS
    refine Ao 0 ?_
    refine Y2 ?_;clear hS;intro g13 w hS
    refine AY 2 ?_
    refine AY 3 ?_
    refine AE AA ?_ _
    exact ⟨rfl,g13,g14,rfl,by rw [Az];exact hS.sub AV⟩
   rotate_right 1
   focus
    refine Y2 ?_;clear hS;intro g13 w hS
    refine AY 2 ?_
    refine Ao 1 ?_
    refine Y2 ?_;clear hS;intro g14 w hS
    refine AY 3 ?_
    refine AE AA ?_ _
    exact ⟨rfl,g13,g14,rfl,by rw [Az];exact hS.sub AV⟩
 clear hS
 intro g13 g14 w hS
 ·repeat' (first
   | (refine Am 50 ?_);refine An AA Tryz.call50 (F8 _ n every (by omega) (by omega)) ?_;rintro e w ⟨a8,c8,m9,hm9,rfl,hS2⟩;rw [HPE.out] at hm9 hS2;obtain rfl:m8=m9:=(by rw [←hm9];exact HM8.out.symm);replace hS:=hS.call1 hS2;clear hS2 hm9;refine Ab ?_;go_step|refine X1 ?_|refine YE ?_|refine Xo ?_|refine AG ?_;go_step|fail)
  go_loopg [20] m8 (fun gk kv w=>∃(k:Nat) (A B:List Int),gk+k=m8∧kv= .int .i64 k∧A.length≤k*25600∧B.length≤k*25600∧Hid (A=XA l (P.take k))∧Hid (B=aN l (P.take k))∧St w0 w [own 94 2 a8 m8 c8 ((TU P).map (Value.int .i64)),own 3 1 (some ⟨g13,0,none⟩) 256 256 ((DP A).map (Value.int .i64)),own 3 1 (some ⟨g14,0,none⟩) 256 256 ((DP B).map (Value.int .i64)),prt g4 [.ints (List.replicate 16 0), .val (.slice none 0 0), .ints (List.replicate 16 0), .val (.slice none 0 0)]])
  case atStart=>exact ⟨0,[],[],by omega,rfl,by simp,by simp,AD rfl,AD rfl,hS.sub AV⟩
  case round=>
   clear hS
   obtain ⟨k,A,B,hk,rfl,hAl,hBl,HF,HR,hS⟩:=hrel
   by_cases hlt:k<m8
   ·obtain ⟨⟨f,t⟩,hx⟩:∃x,P[k]? =some x:=⟨_,List.getElem?_eq_getElem (by rw [HM8.out];exact hlt)⟩
    have hft:=HIN.out _ (List.mem_of_getElem? hx)
    dsimp only at hft
    have hseg:=Lg P k _ hx
    dsimp only at hseg
    have hsl:(A9 l f t).length=(t-f)*64:=Et HL.out hft.1 hft.2
    have hbk:=Hr (show t-f≤400 by omega) (FJ HAB.out hft.1 hft.2)
    have hsy:=TY hsl (t-f) (Nat.le_refl _)
    have hF2:=aM (l:=l) hx
    have hR2:=aP (l:=l) hx
    dsimp only at hF2 hR2
    rw [←HF.out] at hF2
    rw [←HR.out] at hR2
    have hcc:=hv.cutAt f t hft.1 hft.2
    rw [show ((l.map (Value.int .i64)).drop (f*64)).take ((t-f)*64)=(A9 l f t).map (Value.int .i64) by unfold A9;simp] at hcc
    have HBK:=AD hbk
    have HF2:=AD hF2
    have HR2:=AD hR2
    clear HF HR hx hsl hbk hF2 hR2
    obtain ⟨b8,rfl⟩:=Cb (a:=a8) hS AM (by omega)
    repeat' (first
     | (refine AQ 31 ?_);refine AL (f:=71) Tryz.call71 AA ?_;refine ⟨_,(Fo _ (cutAt ad c f 64) (t-f) (c-f) (A9 l f t) (by omega) (hcc.ext hS.1)),?_⟩;rintro e w ⟨hq,_⟩;obtain ⟨g1,g2,rfl,hS2⟩:=hq HBK.out;clear hq;replace hS:=Fw hS hS2;clear hS2;refine Ab ?_;go_step|refine X0 ?_|refine X2 ?_|refine cP 22 ?_|(with_reducible refine Ak _ (.fieldAddr 94 _ 0) ?_);(refine Aq AA (V.fieldAddr PM rfl BT) ?_;go_step)|(with_reducible refine Ak _ (.fieldAddr 94 _ 1) ?_);(refine Aq AA (V.fieldAddr PN rfl BT) ?_;go_step)|(with_reducible refine Ak _ (.slice 42 _ _ _ _) ?_);(refine Aq AA (V.slice Tryz.underlying42 JJ rfl (by (first|exact Lo.none|exact Lo.some rfl BJ)) (by (first|exact Up.none|exact Up.some rfl BJ)) (by omega) (by omega)) ?_;go_step)|refine X7 ?_|refine Vs ?_|refine cF ?_|refine bn 8 ?_;clear hS;intro g8 w hS|refine b9 ?_;clear hS;intro w hS|refine E6 ?_|refine AG ?_;go_step|fail)
    all_goals (try exact AS)
    obtain ⟨gk1,hgk1⟩:∃x,x=gk:=⟨_,rfl⟩
    subst hgk1
    obtain ⟨X,hX⟩:∃X,SH (A9 l f t) (t-f)=X:=⟨_,rfl⟩
    obtain ⟨Y,hY⟩:∃X,ND (A9 l f t) (t-f)=X:=⟨_,rfl⟩
    rw [hX,hY] at hS hsy
    rw [hX] at HF2
    rw [hY] at HR2
    clear hX hY hcc
    go_loopg [37] 256 (fun gk kv w=>∃(i:Nat) (l1 l2:List Int),gk+i=256∧kv= .int .i64 i∧Hid (l1.length=256)∧Hid (l2.length=256)∧Hid (∀j,j<256→AF l1 j=if j<i then AF (DP (A++X)) j else AF (DP A) j)∧Hid (∀j,j<256→AF l2 j=if j<i then AF (DP (B++Y)) j else AF (DP B) j)∧St w0 w [own 94 2 (some ⟨b8,0,none⟩) m8 c8 ((TU P).map (Value.int .i64)),own 3 1 (some ⟨g13,0,none⟩) 256 256 (l1.map (Value.int .i64)),own 3 1 (some ⟨g14,0,none⟩) 256 256 (l2.map (Value.int .i64)),own 3 1 (some ⟨g1,0,none⟩) 256 256 ((DP X).map (Value.int .i64)),own 3 1 (some ⟨g2,0,none⟩) 256 256 ((DP Y).map (Value.int .i64)),prt g4 [.ints (List.replicate 16 0), .val (.slice none 0 0), .ints (List.replicate 16 0), .val (.slice none 0 0)]])
    case atStart=>exact ⟨0,DP A,DP B,rfl,rfl,AD (EQ _),AD (EQ _),AD (fun j hj=>by rw [if_neg (by omega)]),AD (fun j hj=>by rw [if_neg (by omega)]),hS.sub AV⟩
    case round=>
     clear hS
     obtain ⟨i,l1,l2,hi,rfl,HL1,HL2,HV1,HV2,hS⟩:=hrel
     by_cases hlt2:i<256
     ·have e1:=HV1.out i hlt2
      have e2:=HV2.out i hlt2
      rw [if_neg (by omega)] at e1 e2
      have a1:=IZ A hlt2
      have a2:=IZ B hlt2
      have a3:=IZ X hlt2
      have a4:=IZ Y hlt2
      rw [←e1] at a1
      rw [←e2] at a2
      have HA1:=AD (show AF l1 i+AF (DP X) i=AF (DP (A++X)) i by rw [e1];exact UK hlt2)
      have HA2:=AD (show AF l2 i+AF (DP Y) i=AF (DP (B++Y)) i by rw [e2];exact UK hlt2)
      clear e1 e2
      repeat' (first
       | refine X0 ?_|refine X2 ?_|refine AG ?_;go_step|fail)
      all_goals (try exact AS)
      refine AP [10] (fun w=>St w0 w [own 3 1 (some ⟨g13,0,none⟩) 256 256 (l1.map (Value.int .i64)),own 3 1 (some ⟨g1,0,none⟩) 256 256 ((DP X).map (Value.int .i64))]) AA ?_
      replace hS:=hS.drew
      focus
       refine AY 0 ?_
       refine AY 1 ?_
       refine Y6 2 ?_
       refine jM 3 [8,9,10] ?_
       refine AY 4 ?_
       refine AY 5 ?_
       refine Y6 6 ?_
       refine jM 7 [8,9,10] ?_
       refine Vv 8 ?_
       refine Y6 9 ?_
       refine Ao 10 ?_
       refine fA ?_;clear hS;intro w hS
       refine AE AA ?_ _
      repeat' (first|(refine AG ?_;go_step)|fail)
      refine AP [10] (fun w=>St w0 w [own 3 1 (some ⟨g14,0,none⟩) 256 256 (l2.map (Value.int .i64)),own 3 1 (some ⟨g2,0,none⟩) 256 256 ((DP Y).map (Value.int .i64))]) AA ?_
      replace hS:=hS.drew
      focus
       refine AY 0 ?_
       refine AY 1 ?_
       refine Y6 2 ?_
       refine jM 3 [8,9,10] ?_
       refine AY 4 ?_
       refine AY 5 ?_
       refine Y6 6 ?_
       refine jM 7 [8,9,10] ?_
       refine Vv 8 ?_
       refine Y6 9 ?_
       refine Ao 10 ?_
       refine fA ?_;clear hS;intro w hS
       refine AE AA ?_ _
      repeat' (first
       | refine X1 ?_|refine X6 ?_|refine AG ?_;go_step|fail)
      rw [HA1.out,HA2.out] at hS
      have nset:∀(l:List Int)(D E:List Int),l.length=256→(∀j,j<256→AF l j=if j<i then AF (DP (D++E)) j else AF (DP D) j)→∀j,j<256→AF (l.set i (AF (DP (D++E)) i)) j=if j<i+1 then AF (DP (D++E)) j else AF (DP D) j:=fun l D E h1 h2 j hj=>by
       rw [Bj _ _ _ _ (by rw [h1];exact hlt2)]
       by_cases h:i=j
       ·subst h;rw [if_pos rfl,if_pos (by omega)]
       rw [if_neg h,h2 j hj]
       by_cases h3:j<i
       ·rw [if_pos h3,if_pos (by omega)]
       rw [if_neg h3,if_neg (by omega)]
      go_roundg (gk-1)
      case measure=>omega
      case rel=>exact ⟨i+1,l1.set i (AF (DP (A++X)) i),l2.set i (AF (DP (B++Y)) i),by omega,by go_num,AD (by rw [List.length_set];exact HL1.out),AD (by rw [List.length_set];exact HL2.out),AD (nset _ _ _ HL1.out HV1.out),AD (nset _ _ _ HL2.out HV2.out),hS.sub AV⟩
     obtain rfl:i=256:=by omega
     have q1:l1=DP (A++X):=LU HL1.out (EQ _) fun j hj=>by rw [HV1.out j hj,if_pos hj]
     have q2:l2=DP (B++Y):=LU HL2.out (EQ _) fun j hj=>by rw [HV2.out j hj,if_pos hj]
     rw [q1,q2] at hS
     repeat' (first
      | refine X2 ?_|refine AG ?_;go_step|fail)
     repeat' (first
      | refine X1 ?_|refine X6 ?_|refine AG ?_;go_step|fail)
     go_roundg (gk1-1)
     case measure=>omega
     case rel=>exact ⟨k+1,A++X,B++Y,by omega,by go_num,by rw [List.length_append];omega,by rw [List.length_append];omega,AD HF2.out.symm,AD HR2.out.symm,hS.sub AV⟩
   obtain rfl:k=m8:=by omega
   have hf:=HF.out
   have hr:=HR.out
   rw [List.take_of_length_le (by rw [HM8.out];exact Nat.le_refl _)] at hf hr
   subst hf
   subst hr
   obtain ⟨F,hF⟩:∃F,XA l P=F:=⟨_,rfl⟩
   obtain ⟨R,hR⟩:∃F,aN l P=F:=⟨_,rfl⟩
   rw [hF,hR] at hS⊢
   obtain ⟨E1,hE1⟩:∃E,bE (DP F)=E:=⟨_,rfl⟩
   obtain ⟨E2,hE2⟩:∃E,bE (DP R)=E:=⟨_,rfl⟩
   have HE1:=AD hE1
   have HE2:=AD hE2
   have HFE:=AD hF
   have HRE:=AD hR
   clear HF HR hF hR hE1 hE2 hAl hBl
   have hZ:Ae (List.replicate 16 (0:Int)) 16:=Ae.rep
   repeat' (first
    | refine X1 ?_|refine X2 ?_|refine AG ?_;go_step|fail)
   repeat' (first
    | (refine AQ 64 ?_);refine AL (f:=72) Tryz.call72 AA ?_;refine ⟨_,(RB _ (DP F) (some ⟨g13,0,none⟩) 256 256 (hS.sl AM) (by decide)),?_⟩;rintro e w ⟨C1,S1,a1,m1,k1,hC1,hm1,hb1,ht1,hM1,hN1,rfl,hS2⟩;rw [HE1.out];replace hS:=hS.call1 hS2;clear hS2;have HM1:=AD hM1;have HT1:=AD ht1;clear hM1 ht1 hN1;refine Ab ?_;go_step|(refine AQ 70 ?_);refine AL (f:=72) Tryz.call72 AA ?_;refine ⟨_,(RB _ (DP R) (some ⟨g14,0,none⟩) 256 256 (hS.sl AM) (by decide)),?_⟩;rintro e w ⟨C2,S2,a2,m2,k2,hC2,hm2,hb2,ht2,hM2,hN2,rfl,hS2⟩;rw [HE2.out];replace hS:=hS.call1 hS2;clear hS2;have HM2:=AD hM2;have HT2:=AD ht2;have HN2:=AD hN2;clear hM2 ht2 hN2;refine Ab ?_;go_step|(with_reducible refine Ak _ (.store 32 (.tmp 67) _) ?_);refine Ad ?_;refine FO hS 32 _ _ rfl g4 0 rfl 17 (AN rfl) _ _ [.ints C1, .val _] AM rfl (Z0 hZ hC1) (EY C1 _ hC1) rfl rfl ?_;clear hS;intro w hS|(with_reducible refine Ak _ (.store 32 (.tmp 73) _) ?_);refine Ad ?_;refine FO hS 32 _ _ rfl g4 17 rfl 17 (AN rfl) _ _ [.ints C2, .val _] AM rfl (Z1 hC1 hZ hC2) (EY C2 _ hC2) rfl rfl ?_;clear hS;intro w hS|refine X1 ?_|refine X7 ?_|refine ep ?_|refine ew ?_|refine AG ?_;go_step|fail)
   repeat' (first
    | refine T6 ?_|(with_reducible refine Ak _ (.store 34 _ _) ?_);(refine Ad ?_;apply Ge hS 34 _ _ rfl _ rfl 34 (AN rfl) _ _;(case hp=>exact AM);(case hy=>rfl);(case hn=>(repeat (first|exact Bx.nil|(apply Bx.ints;(case hn=>exact D6);(case h=>omega);(case hm=>rfl))|apply Bx.val)));(case hn'=>(repeat (first|exact Bx.nil|(apply Bx.ints;(case hn=>exact D6);(case h=>omega);(case hm=>rfl))|apply Bx.val)));(case hv=>rfl);(case hd=>exact rfl);clear hS;intro w hS)|refine AG ?_;go_step|fail)
   refine BK rfl (AC.prt hS rfl (AN (n:=34) rfl) AM (by (repeat (first|exact Bx.nil|(apply Bx.ints;(case hn=>exact D6);(case h=>omega);(case hm=>rfl))|apply Bx.val)))) rfl ?_
   rw [HFE.out,HRE.out]
   exact ⟨C1,S1,C2,S2,a1,a2,m1,k1,m2,k2,hC1,hC2,hm1,hm2,hb1,hb2,HT1.out,HT2.out,HM1.out,HM2.out,HN2.out,rfl,hS.sub AV⟩
theorem Yj(q b:List Int)(hq:q.length=64):EZ (Jz q b)=true:=by
 have hb:(Gp b).length=64:=B7 _ _
 refine (Aw _ _ _).2 fun i hi=>?_
 unfold Jz Bc
 split
 ·rw [R8 _ _ _ hb hq i (by rw [JC q b hq] at hi;exact hi)]
  unfold dn
  omega
 unfold Ce;rw [EJ];omega
theorem SR{a b:List Int}{n m:Nat}(ha:a.length=n*64)(h1:A6 a n=true)(h2:A6 b m=true):A6 (a++b) (n+m)=true:=by
 unfold A6
 rw [List.all_eq_true]
 intro k hk
 have hk:=List.mem_range.1 hk
 by_cases hkn:k<n
 ·rw [M0 ha hkn];exact EE h1 hkn
 have e:BY (a++b) 64 k=BY b 64 (k-n):=by
  unfold BY
  rw [List.drop_append,List.drop_of_length_le (by rw [ha];omega),List.nil_append,ha,←Nat.sub_mul]
 rw [e];exact EE h2 (by omega)
theorem Sg(q l:List Int)(hq:q.length=64)(n:Nat):A6 (JD q l n) n=true:=by
 unfold A6
 rw [List.all_eq_true]
 intro k hk
 rw [JE q l hq n k (List.mem_range.1 hk)]
 exact Yj q _ hq
theorem Mr(m h:Int)(q:List Int)(hq:q.length=64):∀L:List (List Int),A6 (KR m h q L) (L.length*Aa m h)=true
 | []=>by unfold A6;simp
 | l::L=>by
   rw [KR,List.length_cons,Nat.add_mul,Nat.one_mul,Nat.add_comm]
   exact SR (ER q _ hq _) (Sg q _ hq _) (Mr m h q hq L)
theorem MW(m h:Int)(q:List Int)(hq:q.length=64)(L:List (List Int)):A6 (FX m h q L) (L.length*Aa m h)=true:=by
 have:=Mr m h q hq (C7 Rq Ro Rp L)
 rw [Kc] at this
 exact this
theorem FY(m h:Int)(q:List Int)(hq:q.length=64)(L:List (List Int)):(FX m h q L).length=L.length*Aa m h*64:=by
 have:=Ux m h q hq (C7 Rq Ro Rp L)
 rw [Kc] at this
 exact this
def DM(m h:Int)(q:List Int)(L:List (List Int))(every:Int):Int:=if Gg m h q L=0 then if 0≤every∧every≤100 then if bE (DP (ND (FX m h q L) (L.length*Aa m h)))=0 then 0 else 5 else 1 else Gg m h q L
theorem JI{m h:Int}{q:List Int}{L:List (List Int)}(h0:Gg m h q L=0):F6 m h L=0∧Ej q=true:=by
 unfold Gg at h0
 split at h0
 ·rename_i h1
  split at h0
  ·rename_i h2;exact ⟨h1,h2⟩
  cases h0
 rename_i h1;exact absurd h0 h1
theorem FE{m h:Int}(hok:1≤m∧m≤64∧1≤h∧h≤64):1≤Aa m h∧Aa m h≤64∧(m+7)/8*((h+7)/8)=(Aa m h:Int):=by
 obtain ⟨k0,k1⟩:=Dv ((m+7)/8) ((h+7)/8) 8 8 (by omega) (by omega)
 have k2:0<((m+7)/8)*((h+7)/8):=Int.mul_pos (by omega) (by omega)
 unfold Aa
 omega
theorem Qu(off:Nat):∀(us:List Value)(j:Nat)(A B D:List Value),A.length=off+j→B.length=us.length→
 List.foldl (fun cs (x:Value×Nat)=>cs.setIfInBounds (off+x.2) x.1) (A++(B++D)).toArray (us.zipIdx j)=(A++(us++D)).toArray
 | [],j,A,B,D,_,hB=>by
   obtain rfl:B=[]:=List.eq_nil_of_length_eq_zero (by simpa using hB)
   simp
 | u::us,j,A,B,D,hA,hB=>by
   cases B with
   | nil=>simp at hB
   | cons y B=>
     simp only [List.zipIdx_cons,List.foldl_cons]
     have e1:(A++(y::B++D)).toArray.setIfInBounds (off+j) u=((A++[u])++(B++D)).toArray:=by
      rw [List.setIfInBounds_toArray,List.set_append_right _ _ (by omega),hA,Nat.sub_self,List.cons_append,List.set_cons_zero,List.append_assoc]
      rfl
     rw [e1,Qu off us (j+1) (A++[u]) B D (by rw [List.length_append,hA];simp;omega) (by simpa using hB)]
     simp
theorem Fy{place:Nat→Option (Nat×Nat)}{i off:Nat}{v:Value}{ps ps' ss:List Ag}{rest:List (Nat×Value)}(hr:J6 ss ps off ps')(hv:v.cells=(AH ss).toArray)(hp:place i=some (off,(AH ss).length)):
 Instr.fill place (AH ps).toArray ((i,v)::rest)=Instr.fill place (AH ps').toArray rest:=by
 obtain ⟨A,B,D,e1,e2,hA,hB⟩:=hr.eq
 rw [Instr.fill,hp]
 dsimp only
 have hsz:v.cells.size=(AH ss).length:=by rw [hv];simp
 have hlen:(AH ps).length=A.length+(B.length+D.length):=by rw [e1,List.length_append,List.length_append]
 rw [if_neg (by rw [hsz];simp;omega)]
 congr 1
 rw [←Array.foldl_toList,hv,e1,e2]
 have:=Qu off (AH ss) 0 A B D (by omega) hB
 simpa using this
theorem KX{P:Program}{t:TypeId}{fields:Array Field}{z:Value}{places:Array (Nat×Nat)}{cells:Array Value}{parts:Array (Nat×Value)}(w:World)(hz:(zeroValue t).run P w= .ok z w)(ht:P.underlying t=some (.struct fields))
 (hp:(fields.mapM fun f=>do pure (f.offset,←sizeOf f.type):Sem (Array (Nat×Nat))).run P w= .ok places w) (hf:Instr.fill (places[·]?) z.cells parts.toList=some cells):(Instr.build t parts).run P w= .ok (.agg cells) w:=by
 unfold Instr.build
 simp only [Sem.run_bind,hz,Result.andThen_ok,run_underlying ht,hp,hf,Sem.run_pure]
def gz:Value:= .agg (AH [.val (.int .i64 0), .val (.int .i64 0), .val (.int .i64 0), .ints (List.replicate 64 0), .ints (List.replicate 16 0), .val (.slice none 0 0), .ints (List.replicate 16 0), .val (.slice none 0 0), .val (.int .i64 0), .val (.slice none 0 0)]).toArray
theorem MG(w:World):(Instr.build 37 #[]).run Tryz.prog w= .ok gz w:=by kernel_rfl
def fp(a b c:Value)(Q C1:List Int)(v1:Value)(C2:List Int)(v2 e d:Value):List Ag:=[.val a, .val b, .val c, .ints Q, .ints C1, .val v1, .ints C2, .val v2, .val e, .val d]
section
variable{a b c x v1 v2 e d y1 y2:Value}{Q Q' C1 C2 D1 D2:List Int}
theorem ki:J6 [.val x] (fp a b c Q C1 v1 C2 v2 e d) 0 (fp x b c Q C1 v1 C2 v2 e d):=J6.head (B:=[.val a]) (D:=[.val b, .val c, .ints Q, .ints C1, .val v1, .ints C2, .val v2, .val e, .val d]) rfl
theorem kj:J6 [.val x] (fp a b c Q C1 v1 C2 v2 e d) 1 (fp a x c Q C1 v1 C2 v2 e d):= .skipV (J6.head (B:=[.val b]) (D:=[.val c, .ints Q, .ints C1, .val v1, .ints C2, .val v2, .val e, .val d]) rfl)
theorem kk:J6 [.val x] (fp a b c Q C1 v1 C2 v2 e d) 2 (fp a b x Q C1 v1 C2 v2 e d):= .skipV (.skipV (J6.head (B:=[.val c]) (D:=[.ints Q, .ints C1, .val v1, .ints C2, .val v2, .val e, .val d]) rfl))
theorem kl(hQ:Ae Q 64)(hQ':Ae Q' 64):J6 [.ints Q'] (fp a b c Q C1 v1 C2 v2 e d) 3 (fp a b c Q' C1 v1 C2 v2 e d):= .skipV (.skipV (.skipV (J6.head (B:=[.ints Q]) (D:=[.ints C1, .val v1, .ints C2, .val v2, .val e, .val d]) (by simp [AH,Ag.cells,hQ.out,hQ'.out]))))
theorem ko(hQ:Ae Q 64)(h1:Ae C1 16)(h2:Ae C2 16):J6 [.val x] (fp a b c Q C1 v1 C2 v2 e d) 101 (fp a b c Q C1 v1 C2 v2 x d):= .skipV (.skipV (.skipV (.skipI hQ (by omega) rfl (.skipI h1 (by omega) rfl (.skipV (.skipI h2 (by omega) rfl (.skipV (J6.head (B:=[.val e]) (D:=[.val d]) rfl))))))))
theorem km(hQ:Ae Q 64)(h1:Ae C1 16)(h2:Ae C2 16)(k1:Ae D1 16)(k2:Ae D2 16):J6 [.ints D1, .val y1, .ints D2, .val y2] (fp a b c Q C1 v1 C2 v2 e d) 67 (fp a b c Q D1 y1 D2 y2 e d):= .skipV (.skipV (.skipV (.skipI hQ (by omega) rfl (J6.head (B:=[.ints C1, .val v1, .ints C2, .val v2]) (D:=[.val e, .val d]) (by simp [AH,Ag.cells,h1.out,h2.out,k1.out,k2.out])))))
end
theorem GK(m h p ev:Int)(Q C1 C2:List Int)(v1 v2:Value)(hQ:Ae Q 64)(hC1:Ae C1 16)(hC2:Ae C2 16)(w:World):
 (Instr.build 37 #[(0, .int .i64 m),(1, .int .i64 h),(2, .int .i64 p),(3, .agg (iv Q)),(5, .int .i64 ev),(4, .agg (AH [.ints C1, .val v1, .ints C2, .val v2]).toArray)]).run Tryz.prog w= .ok (.agg (AH [.val (.int .i64 m), .val (.int .i64 h), .val (.int .i64 p), .ints Q, .ints C1, .val v1, .ints C2, .val v2, .val (.int .i64 ev), .val (.slice none 0 0)]).toArray) w:=by
 have hZ:Ae (List.replicate 64 (0:Int)) 64:=Ae.rep
 have hz:Ae (List.replicate 16 (0:Int)) 16:=Ae.rep
 refine KX (places:=#[(0,1),(1,1),(2,1),(3,64),(67,34),(101,1),(102,1)]) w (jD w) Tryz.underlying37 AA ?_
 refine Eq.trans (Fy (i:=0) (off:=0) (v:= .int .i64 m) (ss:=[.val (.int .i64 m)]) (ps:=fp (.int .i64 0) (.int .i64 0) (.int .i64 0) (List.replicate 64 0) (List.replicate 16 0) (.slice none 0 0) (List.replicate 16 0) (.slice none 0 0) (.int .i64 0) (.slice none 0 0)) ki rfl rfl) ?_
 refine Eq.trans (Fy (i:=1) (off:=1) (v:= .int .i64 h) (ss:=[.val (.int .i64 h)]) kj rfl rfl) ?_
 refine Eq.trans (Fy (i:=2) (off:=2) (v:= .int .i64 p) (ss:=[.val (.int .i64 p)]) kk rfl rfl) ?_
 refine Eq.trans (Fy (i:=3) (off:=3) (v:= .agg (iv Q)) (ss:=[.ints Q]) (kl hZ hQ) (by simp [AH,Ag.cells,Value.cells,iv]) (by simp [AH,Ag.cells,hQ.out])) ?_
 refine Eq.trans (Fy (i:=5) (off:=101) (v:= .int .i64 ev) (ss:=[.val (.int .i64 ev)]) (ko hQ hz hz) rfl rfl) ?_
 refine Eq.trans (Fy (i:=4) (off:=67) (v:= .agg (AH [.ints C1, .val v1, .ints C2, .val v2]).toArray) (ss:=[.ints C1, .val v1, .ints C2, .val v2]) (km hQ hz hz hC1 hC2) rfl (by simp [AH,Ag.cells,hC1.out,hC2.out])) ?_
 rfl
structure Tu(B:List Int)(n ev:Nat)(C1 S1 C2 S2 D:List Int):Prop where
 l1:Ae C1 16
 l2:Ae C2 16
 m1:Mk (DP (XA B (Bo n ev))) 256 C1 S1
 m2:Mk (DP (aN B (Bo n ev))) 256 C2 S2
 d:D=N5 (Fm C1 S1 C2 S2 B (Bo n ev)) 0
def ZF(m h p:Int)(Q C1:List Int)(v1:Value)(C2:List Int)(v2:Value)(ev:Int)(vd:Value):Value:= .agg (AH [.val (.int .i64 m), .val (.int .i64 h), .val (.int .i64 p), .ints Q, .ints C1, .val v1, .ints C2, .val v2, .val (.int .i64 ev), .val vd]).toArray
def Dp(w0:World)(E m h:Int)(q:List Int)(np:Nat)(every:Int)(B:List Int)(n:Nat)(e:Ending)(w:World):Prop:=
 (E≠0→e= .returned (.tuple #[gz, .int .i64 E])∧Ah w0 w)∧
 (E=0→∃(C1 S1 C2 S2 D:List Int) (a1 a2 ad:Option Addr) (n1 k1 n2 k2 nd kd:Nat),Tu B n every.toNat C1 S1 C2 S2 D∧S1.length=n1∧S2.length=n2∧D.length=nd∧
   e= .returned (.tuple #[ZF m h np q C1 (.slice a1 n1 k1) C2 (.slice a2 n2 k2) every (.slice ad nd kd), .int .i64 0])∧St w0 w [own 3 1 a1 n1 k1 (S1.map (Value.int .i64)),own 3 1 a2 n2 k2 (S2.map (Value.int .i64)),own 5 1 ad nd kd (D.map (Value.int .u8))])
theorem Sk(w0:World)(m h:Int)(hm: -9223372036854775808≤m∧m≤9223372036854775807)(a:Option Addr)(c:Nat)(R:List Rw)(hR:R.length≤9223372036854775807)(hP:A8 w0 a c R)(q:List Int)(hq:Ae q 64)(every:Int)(h0:Gg m h q (R.map (·.xs))≠0∨every<0∨100<every):
 Calls Tryz.prog 17 #[.agg #[.int .i64 m, .int .i64 h, .slice a R.length c], .agg (iv q), .int .i64 every] w0 (Dp w0 (DM m h q (R.map (·.xs)) every) m h q R.length every (FX m h q (R.map (·.xs))) (R.length*Aa m h)):=by
 have hS:=St.start w0
 have HB:=AD fun (w:World)(hx:Ah w0 w)=>EF w m h hm a c R hR (hP.ext hx) q hq
 have HPE:=AD (show DM m h q (R.map (·.xs)) every=if Gg m h q (R.map (·.xs))=0 then if 0≤every∧every≤100 then if bE (DP (ND (FX m h q (R.map (·.xs))) ((R.map (·.xs)).length*Aa m h)))=0 then 0 else 5 else 1 else Gg m h q (R.map (·.xs)) from rfl)
 obtain ⟨E0,hE0⟩:∃E,Gg m h q (R.map (·.xs))=E:=⟨_,rfl⟩
 rw [hE0] at HB HPE h0
 obtain ⟨N,hN⟩:∃N,R.length=N:=⟨_,rfl⟩
 rw [hN] at HB⊢
 clear hP hE0 hN
 by_cases hz:E0=0
 ·subst hz
  have hev:every<0∨100<every:=by
   rcases h0 with h|h
   ·exact absurd rfl h
   exact h
  have HF:=AD (show DM m h q (R.map (·.xs)) every=1 by rw [HPE.out,if_pos rfl,if_neg (by omega)])
  have HB2:Hid (∀w,Ah w0 w→Calls Tryz.prog 19 #[.agg #[.int .i64 m, .int .i64 h, .slice a N c], .agg (iv q)] w fun e w'=>∃(ao:Option Addr) (co:Nat),e= .returned (.tuple #[.slice ao (N*Aa m h) co, .int .i64 0])∧Ah w w'):=fun w hx=>(HB.out w hx).mono fun e w' hh=>by
   obtain ⟨ao,co,h1,h2⟩:=hh.2 rfl
   exact ⟨ao,co,h1,h2.1⟩
  clear HPE h0 HB
  rcases hev with hev|hev
  all_goals
   go_enter Tryz.func17,Tryz.ntmps17
   repeat' (first
    | (refine Am 19 ?_);refine An AA Tryz.call19 (HB2.out _ hS.1) ?_;rintro e w ⟨ao,co,rfl,hE2⟩;replace hS:=hS.ext hE2;clear hE2;refine Ab ?_;go_step|(refine AQ 29 ?_);refine Aq AA (V.build (vs:=[]) rfl MG) ?_;go_step|go_skip|refine X0 ?_|refine Kl ?_|refine I0 18 ?_ ?_<;>intro hB<;>(try exact AS)<;>go_step|refine FT 21 ?_ ?_<;>intro hB<;>(try exact AS)<;>go_step|refine X7 ?_|refine II ?_|refine X5 ?_|refine T0 3 ?_;clear hS;intro g3 w hS|refine L7 4 ?_;clear hS;intro g4 w hS|refine XX 6 ?_;clear hS;intro g6 w hS|refine XZ ?_|refine Hp ?_|refine SP ?_;clear hS;intro w hS|refine AG ?_;go_step|fail)
   all_goals (try exact AS)
   all_goals
    refine AO (xs:=[_,_]) rfl (.cons (AC.prt hS rfl (AN (n:=103) rfl) AM (by (repeat (first|exact Bx.nil|(apply Bx.ints;(case hn=>exact D6);(case h=>omega);(case hm=>rfl))|apply Bx.val)))) (.cons (AC.tmp rfl) (.nil))) (by simp) rfl ?_
    exact ⟨fun _=>⟨by rw [HF.out];rfl,hS.1⟩,fun h=>by rw [HF.out] at h;cases h⟩
 have HF:=AD (show DM m h q (R.map (·.xs)) every=E0 by rw [HPE.out,if_neg hz])
 have HB2:Hid (∀w,Ah w0 w→Calls Tryz.prog 19 #[.agg #[.int .i64 m, .int .i64 h, .slice a N c], .agg (iv q)] w fun e w'=>e= .returned (.tuple #[.slice none 0 0, .int .i64 E0])∧Ah w w'):=fun w hx=>(HB.out w hx).mono fun e w' hh=>hh.1 hz
 clear HPE h0 HB
 go_enter Tryz.func17,Tryz.ntmps17
 repeat' (first
  | (refine Am 19 ?_);refine An AA Tryz.call19 (HB2.out _ hS.1) (Fq hS ?_);clear hS;intro w hS;go_step|(refine AQ 29 ?_);refine Aq AA (V.build (vs:=[]) rfl MG) ?_;go_step|go_skip|refine X0 ?_|refine Gj ?_|refine I0 18 ?_ ?_<;>intro hB<;>(try exact AS)<;>go_step|refine X7 ?_|refine X5 ?_|refine T0 3 ?_;clear hS;intro g3 w hS|refine L7 4 ?_;clear hS;intro g4 w hS|refine XX 6 ?_;clear hS;intro g6 w hS|refine XZ ?_|refine Hp ?_|refine SP ?_;clear hS;intro w hS|refine AG ?_;go_step|fail)
 all_goals (try exact AS)
 all_goals
  refine AO (xs:=[_,_]) rfl (.cons (AC.prt hS rfl (AN (n:=103) rfl) AM (by (repeat (first|exact Bx.nil|(apply Bx.ints;(case hn=>exact D6);(case h=>omega);(case hm=>rfl))|apply Bx.val)))) (.cons (AC.tmp rfl) (.nil))) (by simp) rfl ?_
  exact ⟨fun _=>⟨by rw [HF.out];rfl,hS.1⟩,fun h=>by rw [HF.out] at h;exact absurd h hz⟩
theorem Kr(w0:World)(m h:Int)(hm: -9223372036854775808≤m∧m≤9223372036854775807)(a:Option Addr)(c:Nat)(R:List Rw)(hR:R.length≤9223372036854775807)(hP:A8 w0 a c R)(q:List Int)(hq:Ae q 64)(ev:Nat)(hev:ev≤100)(h0:Gg m h q (R.map (·.xs))=0):
 Calls Tryz.prog 17 #[.agg #[.int .i64 m, .int .i64 h, .slice a R.length c], .agg (iv q), .int .i64 ev] w0 (Dp w0 (DM m h q (R.map (·.xs)) ev) m h q R.length ev (FX m h q (R.map (·.xs))) (R.length*Aa m h)):=by
 have hS:=St.start w0
 have hB0:=fun (w:World)(hx:Ah w0 w)=>EF w m h hm a c R hR (hP.ext hx) q hq
 obtain ⟨hpz,hqk⟩:=JI h0
 obtain ⟨hok,hlen,hall⟩:=Hz hpz
 obtain ⟨q1,q2,q3⟩:=FE hok
 rw [List.length_map] at hlen
 have hPE:DM m h q (R.map (·.xs)) ev=if bE (DP (ND (FX m h q (R.map (·.xs))) ((R.map (·.xs)).length*Aa m h)))=0 then 0 else 5:=by
  unfold DM;rw [if_pos h0,if_pos (by omega)]
 have hab:=MW m h q hq (R.map (·.xs))
 have hbl:=FY m h q hq (R.map (·.xs))
 rw [List.length_map] at hPE hab hbl
 rw [h0] at hB0
 obtain ⟨N,hN⟩:∃N,R.length=N:=⟨_,rfl⟩
 rw [hN] at hB0 hPE hab hbl hlen⊢
 have hn1:N*Aa m h≤192:=by
  have:=Nat.mul_le_mul (show N≤3 by omega) q2
  omega
 obtain ⟨n,hn⟩:∃n,N*Aa m h=n:=⟨_,rfl⟩
 rw [hn] at hB0 hPE hab hbl hn1⊢
 obtain ⟨B,hB⟩:∃B,FX m h q (R.map (·.xs))=B:=⟨_,rfl⟩
 rw [hB] at hB0 hPE hab hbl⊢
 have HB:Hid (∀w,Ah w0 w→Calls Tryz.prog 19 #[.agg #[.int .i64 m, .int .i64 h, .slice a N c], .agg (iv q)] w fun e w'=>∃(ao:Option Addr) (co:Nat),e= .returned (.tuple #[.slice ao n co, .int .i64 0])∧St w w' [own 26 64 ao n co (B.map (Value.int .i64))]):=fun w hx=>(hB0 w hx).mono fun e w' hh=>hh.2 rfl
 have HPE:=AD hPE
 have HAB:=AD hab
 have HBL:=AD hbl
 have HF0:=AD (YM (l:=B) ev (show n≤400 by omega))
 have HSR:=AD (aO ev hbl hab)
 have HN:=AD hN
 have hN3:N≤3:=by omega
 clear hB0 hPE hab hbl hP h0 hpz hqk hall hn hB hN q1 q2 q3 hlen hok hR
 by_cases hr:bE (DP (ND B n))=0
 ·have HE:=AD (show DM m h q (R.map (·.xs)) ev=0 by rw [HPE.out,if_pos hr])
  have HR:=AD hr
  clear hr HPE
  go_enter Tryz.func17,Tryz.ntmps17
  repeat' (first
   | (refine Am 19 ?_);refine An AA Tryz.call19 (HB.out _ hS.1) ?_;rintro e w ⟨ao,co,rfl,hS2⟩;replace hS:=hS.call1 hS2;clear hS2;refine Ab ?_;go_step|refine X0 ?_|refine Kl ?_|refine I0 18 ?_ ?_<;>intro hB<;>(try exact AS)<;>go_step|refine FT 21 ?_ ?_<;>intro hB<;>(try exact AS)<;>go_step|refine X7 ?_|refine II ?_|refine T0 3 ?_;clear hS;intro g3 w hS|refine L7 4 ?_;clear hS;intro g4 w hS|refine XX 6 ?_;clear hS;intro g6 w hS|refine XZ ?_|refine Hp ?_|refine AG ?_;go_step|fail)
  all_goals (try exact AS)
  repeat' (first
   | refine X5 ?_|refine AG ?_;go_step|fail)
  all_goals (try exact AS)
  refine AP [14] (fun w=>St w0 w [blk g3 [.int .i64 m, .int .i64 h, .slice a N c],arr g4 64 q]) AA ?_
  replace hS:=hS.drew
  focus
   refine CA 0 BZ (V.fieldAddr So rfl BT) ?_;go_step
   refine Y5 1 [12,14] ?_
   refine CA 2 BZ (V.fieldAddr Sp rfl BT) ?_;go_step
   refine Y5 3 [12,14] ?_
   refine gt 4 ?_
   refine lD 5 [6,12,14] ?_
   refine CA 6 BZ (V.len Tryz.underlying22 rfl) ?_;go_step
   refine jw 7 [12,14] ?_
   refine AY 8 ?_
   refine AY 9 ?_
   refine AY 10 ?_
   refine Ay [11,13] AA (by simp) (.cons Ai AA ?_ (.cons Ai AA ?_ (.nil)))
   rotate_left 1
   focus
    refine Y8 ?_;clear hS;intro g10 w hS
    refine Ao 11 ?_
    refine AR (f:=41) rfl Tryz.call41 (Gb _ ao n co B ev (by omega) (by omega) HAB.out (hS.sl AM)) ?_;rintro e w ⟨C1,S1,C2,S2,a1,a2,m1,k1,m2,k2,hC1,hC2,hm1,hm2,hb1,hb2,ht1,ht2,hM1,hM2,hN2,rfl,hS2⟩;replace hS:=Fw hS hS2;clear hS2;have HM1:=AD hM1;have HT1:=AD ht1;have HM2:=AD hM2;have HT2:=AD ht2;have HN2:=AD hN2;clear hM1 ht1 hM2 ht2 hN2;refine ⟨_,rfl,?_⟩
    refine ⟨fun _ _=>hS.sub AV,?_⟩
    refine AI ?_
    go_step
    refine BA 12 _ Ai AA AA AA B5 (V.build (vs:=[(0, .int .i64 m),(1, .int .i64 h),(2, .int .i64 (N:Int)),(3, .agg (iv q)),(5, .int .i64 (ev:Int)),(4, .agg (AH [.ints C1, .val (.slice a1 m1 k1), .ints C2, .val (.slice a2 m2 k2)]).toArray)]) rfl (GK m h (N:Int) (ev:Int) q C1 C2 (.slice a1 m1 k1) (.slice a2 m2 k2) hq hC1 hC2)) AA ?_
    go_step
    refine Ao 14 ?_
    refine Y9 ?_;clear hS;intro w hS
    refine AE AA ?_ _
   rotate_right 1
   focus
    refine AR (f:=41) rfl Tryz.call41 (Gb _ ao n co B ev (by omega) (by omega) HAB.out (hS.sl AM)) ?_;rintro e w ⟨C1,S1,C2,S2,a1,a2,m1,k1,m2,k2,hC1,hC2,hm1,hm2,hb1,hb2,ht1,ht2,hM1,hM2,hN2,rfl,hS2⟩;replace hS:=Fw hS hS2;clear hS2;have HM1:=AD hM1;have HT1:=AD ht1;have HM2:=AD hM2;have HT2:=AD ht2;have HN2:=AD hN2;clear hM1 ht1 hM2 ht2 hN2;refine ⟨_,rfl,?_⟩
    refine ⟨fun _ _=>hS.sub AV,?_⟩
    refine AI ?_
    go_step
    refine BA 12 _ Ai AA AA AA B5 (V.build (vs:=[(0, .int .i64 m),(1, .int .i64 h),(2, .int .i64 (N:Int)),(3, .agg (iv q)),(5, .int .i64 (ev:Int)),(4, .agg (AH [.ints C1, .val (.slice a1 m1 k1), .ints C2, .val (.slice a2 m2 k2)]).toArray)]) rfl (GK m h (N:Int) (ev:Int) q C1 C2 (.slice a1 m1 k1) (.slice a2 m2 k2) hq hC1 hC2)) AA ?_
    go_step
    refine Ao 13 ?_
    refine Y8 ?_;clear hS;intro g10 w hS
    refine Ao 14 ?_
    refine Y9 ?_;clear hS;intro w hS
    refine AE AA ?_ _
  all_goals
   repeat' (first|(refine AG ?_;go_step)|fail)
   have hmk1:=HM1.out HF0.out
   have hmk2:=HM2.out (by rw [HSR.out];exact HR.out)
   have htb:Eu C1 S1 C2 S2=0:=by unfold Eu;rw [if_pos HT1.out];exact HT2.out
   have hsc:=eA hev htb (Hr (show n≤400 by omega) HAB.out) (Of HBL.out (show n≤400 by omega) HAB.out hmk1 hmk2)
   obtain ⟨D,hD⟩:∃D,N5 (Fm C1 S1 C2 S2 B (Bo n ev)) 0=D:=⟨_,rfl⟩
   rw [hD] at hsc
   have HSC:=AD hsc
   have HEN:Hid (Tu B n ev C1 S1 C2 S2 D):=⟨hC1,hC2,hmk1,hmk2,hD.symm⟩
   clear hmk1 hmk2 htb hsc hD
   repeat' (first
    | (refine Am 42 ?_);refine An AA Tryz.call42 (Hf _ C1 C2 S1 S2 a1 a2 m1 m2 k1 k2 hC1 hC2 (hS.sl AM) (hS.sl AM) (by omega) (by omega) ao n co B (by omega) (hS.sl AM) (ev:Int)) ?_;rintro e w ⟨ad,kd,nd,hnd,rfl,hS2⟩;rw [HSC.out] at hnd hS2⊢;replace hS:=hS.call1 hS2;clear hS2;have HND:=AD hnd;clear hnd;refine Ab ?_;go_step|refine X0 ?_|refine Vj ?_|refine X7 ?_|refine Xv ?_|refine X5 ?_|refine T6 ?_|refine fx ?_;clear hS;intro w hS|refine AG ?_;go_step|fail)
   all_goals (try exact AS)
   repeat' (first
    | refine X8 ?_|refine SD ?_|refine SP ?_;clear hS;intro w hS|refine AG ?_;go_step|fail)
   refine AO (xs:=[_,_]) rfl (.cons (AC.prt hS rfl (AN (n:=103) rfl) AM (by (repeat (first|exact Bx.nil|(apply Bx.ints;(case hn=>exact D6);(case h=>omega);(case hm=>rfl))|apply Bx.val)))) (.cons (AC.tmp rfl) (.nil))) (by simp) rfl ?_
   refine ⟨fun h=>absurd HE.out h,fun _=>⟨C1,S1,C2,S2,D,a1,a2,ad,m1,k1,m2,k2,nd,kd,by rw [Int.toNat_natCast];exact HEN.out,hm1,hm2,HND.out,rfl,hS.sub AV⟩⟩
 have HE:=AD (show DM m h q (R.map (·.xs)) ev=5 by rw [HPE.out,if_neg hr])
 have HR:=AD hr
 clear hr HPE
 go_enter Tryz.func17,Tryz.ntmps17
 repeat' (first
  | (refine Am 19 ?_);refine An AA Tryz.call19 (HB.out _ hS.1) ?_;rintro e w ⟨ao,co,rfl,hS2⟩;replace hS:=hS.call1 hS2;clear hS2;refine Ab ?_;go_step|refine X0 ?_|refine Kl ?_|refine I0 18 ?_ ?_<;>intro hB<;>(try exact AS)<;>go_step|refine FT 21 ?_ ?_<;>intro hB<;>(try exact AS)<;>go_step|refine X7 ?_|refine II ?_|refine T0 3 ?_;clear hS;intro g3 w hS|refine L7 4 ?_;clear hS;intro g4 w hS|refine XX 6 ?_;clear hS;intro g6 w hS|refine XZ ?_|refine Hp ?_|refine AG ?_;go_step|fail)
 all_goals (try exact AS)
 repeat' (first
  | refine X5 ?_|refine AG ?_;go_step|fail)
 all_goals (try exact AS)
 refine AP [14] (fun w=>St w0 w [blk g3 [.int .i64 m, .int .i64 h, .slice a N c],arr g4 64 q]) AA ?_
 replace hS:=hS.drew
 focus
  refine CA 0 BZ (V.fieldAddr So rfl BT) ?_;go_step
  refine Y5 1 [12,14] ?_
  refine CA 2 BZ (V.fieldAddr Sp rfl BT) ?_;go_step
  refine Y5 3 [12,14] ?_
  refine gt 4 ?_
  refine lD 5 [6,12,14] ?_
  refine CA 6 BZ (V.len Tryz.underlying22 rfl) ?_;go_step
  refine jw 7 [12,14] ?_
  refine AY 8 ?_
  refine AY 9 ?_
  refine AY 10 ?_
  refine Ay [11,13] AA (by simp) (.cons Ai AA ?_ (.cons Ai AA ?_ (.nil)))
  rotate_left 1
  focus
   refine Y8 ?_;clear hS;intro g10 w hS
   refine Ao 11 ?_
   refine AR (f:=41) rfl Tryz.call41 (Gb _ ao n co B ev (by omega) (by omega) HAB.out (hS.sl AM)) ?_;rintro e w ⟨C1,S1,C2,S2,a1,a2,m1,k1,m2,k2,hC1,hC2,hm1,hm2,hb1,hb2,ht1,ht2,hM1,hM2,hN2,rfl,hS2⟩;replace hS:=Fw hS hS2;clear hS2;have HM1:=AD hM1;have HT1:=AD ht1;have HM2:=AD hM2;have HT2:=AD ht2;have HN2:=AD hN2;clear hM1 ht1 hM2 ht2 hN2;refine ⟨_,rfl,?_⟩
   refine ⟨fun _ _=>hS.sub AV,?_⟩
   refine AI ?_
   go_step
   refine BA 12 _ Ai AA AA AA B5 (V.build (vs:=[(0, .int .i64 m),(1, .int .i64 h),(2, .int .i64 (N:Int)),(3, .agg (iv q)),(5, .int .i64 (ev:Int)),(4, .agg (AH [.ints C1, .val (.slice a1 m1 k1), .ints C2, .val (.slice a2 m2 k2)]).toArray)]) rfl (GK m h (N:Int) (ev:Int) q C1 C2 (.slice a1 m1 k1) (.slice a2 m2 k2) hq hC1 hC2)) AA ?_
   go_step
   refine Ao 14 ?_
   refine Y9 ?_;clear hS;intro w hS
   refine AE AA ?_ _
  rotate_right 1
  focus
   refine AR (f:=41) rfl Tryz.call41 (Gb _ ao n co B ev (by omega) (by omega) HAB.out (hS.sl AM)) ?_;rintro e w ⟨C1,S1,C2,S2,a1,a2,m1,k1,m2,k2,hC1,hC2,hm1,hm2,hb1,hb2,ht1,ht2,hM1,hM2,hN2,rfl,hS2⟩;replace hS:=Fw hS hS2;clear hS2;have HM1:=AD hM1;have HT1:=AD ht1;have HM2:=AD hM2;have HT2:=AD ht2;have HN2:=AD hN2;clear hM1 ht1 hM2 ht2 hN2;refine ⟨_,rfl,?_⟩
   refine ⟨fun _ _=>hS.sub AV,?_⟩
   refine AI ?_
   go_step
   refine BA 12 _ Ai AA AA AA B5 (V.build (vs:=[(0, .int .i64 m),(1, .int .i64 h),(2, .int .i64 (N:Int)),(3, .agg (iv q)),(5, .int .i64 (ev:Int)),(4, .agg (AH [.ints C1, .val (.slice a1 m1 k1), .ints C2, .val (.slice a2 m2 k2)]).toArray)]) rfl (GK m h (N:Int) (ev:Int) q C1 C2 (.slice a1 m1 k1) (.slice a2 m2 k2) hq hC1 hC2)) AA ?_
   go_step
   refine Ao 13 ?_
   refine Y8 ?_;clear hS;intro g10 w hS
   refine Ao 14 ?_
   refine Y9 ?_;clear hS;intro w hS
   refine AE AA ?_ _
 all_goals
  repeat' (first|(refine AG ?_;go_step)|fail)
  obtain rfl:S2=[]:=HN2.out (by rw [HSR.out];exact HR.out)
  have hsc:=W5 HBL.out (show n≤400 by omega) hev HAB.out HT1.out HT2.out (fun e=>HR.out (by rw [e];exact KE (by simp)))
  have HSC:=AD hsc
  clear hsc
  repeat' (first
   | (refine Am 42 ?_);refine An AA Tryz.call42 (Hf _ C1 C2 S1 [] a1 a2 m1 m2 k1 k2 hC1 hC2 (hS.sl AM) (hS.sl AM) (by omega) (by omega) ao n co B (by omega) (hS.sl AM) (ev:Int)) ?_;rintro e w ⟨ad,kd,nd,hnd,rfl,hS2⟩;rw [HSC.out] at hnd hS2⊢;replace hS:=hS.call1 hS2;clear hS2;have HND:=AD hnd;clear hnd;refine Ab ?_;go_step|(refine AQ 55 ?_);refine Aq AA (V.build (vs:=[]) rfl MG) ?_;go_step|refine X0 ?_|refine Vj ?_|refine X7 ?_|refine Xv ?_|refine X5 ?_|refine T6 ?_|refine fx ?_;clear hS;intro w hS|refine SP ?_;clear hS;intro w hS|refine AG ?_;go_step|fail)
  all_goals (try exact AS)
  refine AO (xs:=[_,_]) rfl (.cons (AC.prt hS rfl (AN (n:=103) rfl) AM (by (repeat (first|exact Bx.nil|(apply Bx.ints;(case hn=>exact D6);(case h=>omega);(case hm=>rfl))|apply Bx.val)))) (.cons (AC.tmp rfl) (.nil))) (by simp) rfl ?_
  exact ⟨fun _=>⟨by rw [HE.out];rfl,hS.1⟩,fun h=>by rw [HE.out] at h;cases h⟩
section
variable{P:Program}{ops:Array Oper}{Q:Exit→Act→World→Prop}{a:Act}{w:World}{o:Oper}{K:Act→World→Prop}
theorem du(l n:Nat)(ho:∀c,o.op≠ .defer c)(h:o.wp P a w K Q):o.wpIn (Fence.wide.inRound l) n P a w K Q:=by
 refine ⟨fun f _=>trivial,?_⟩
 rw [Oper.semAt_plain _ _ _ ho]
 unfold Oper.wp at h
 generalize (execOp a.eval o).run P w=r at h⊢
 match r,h with
 | .ok (.value v) w',h=>exact h
 | .ok .skip w',h=>exact h
 | .ok (.defer d) w',h=>exact h
 | .ok (.enter f args) w',h=>exact ⟨fun h=>(by cases h),CallsIn.inRound l (callsIn_wide.2 h)⟩
 | .ok (.row row args) w',h=>
   refine ⟨fun h=>(by cases h),fun c cs _=>?_⟩
   obtain ⟨v,w'',r,s⟩:=h c cs
   exact ⟨v,w'',r,stepsIn_wide.2 s⟩
 | .halt (.panic v) w',h=>exact h
def PS:Op→Bool
 | .defer _=>false
 | _=>true
theorem Dl(l n:Nat)(hout:¬LetsOut Q):∀(L:List Oper)(a:Act)(w:World),(L.all fun o=>PS o.op)=true→wpList P ops Q L a w→wpListIn (Fence.wide.inRound l) n P ops Q L a w
 | [],a,w,_,h=>h
 | o::L,a,w,hd,h=>by
   rw [List.all_cons,Bool.and_eq_true] at hd
   have hd1:∀c,o.op≠ .defer c:=fun c e=>by rw [e] at hd;exact absurd hd.1 (by simp [PS])
   have e:wpList P ops Q L=wpList P ops Q L:=rfl
   simp only [wpList] at h
   simp only [wpListIn]
   split at h
   ·rename_i hw
    rw [if_pos hw]
    rcases h with h|⟨_,h⟩
    ·have h2:=du l n hd1 h
     refine ⟨h2.1,?_⟩
     have h3:=h2.2
     revert h3
     have mono:∀(r:Result Next),o.uponIn (Fence.wide.inRound l) n P a (wpList P ops Q L) Q r→o.uponIn (Fence.wide.inRound l) n P a (wpListIn (Fence.wide.inRound l) n P ops Q L) Q r:=fun r hr=>by
      match r,hr with
      | .ok (.value v) w',hr=>exact Dl l n hout L _ _ hd.2 hr
      | .ok .skip w',hr=>exact Dl l n hout L _ _ hd.2 hr
      | .ok (.defer d) w',hr=>exact Dl l n hout L _ _ hd.2 hr
      | .ok (.enter f args) w',hr=>
        refine ⟨hr.1,hr.2.mono ?_⟩
        rintro e w'' he
        match e,he with
        | .returned v,he=>exact Dl l n hout L _ _ hd.2 he
        | .panicked chain,he=>exact he
        | .outgrown,he=>exact he
      | .ok (.row row args) w',hr=>exact ⟨hr.1,hr.2.mono fun v w'' he=>Dl l n hout L _ _ hd.2 he⟩
      | .ok (.round l' f tmps assign body) w',hr=>
        refine ⟨hr.1,hr.2.mono ?_⟩
        rintro e w'' he
        match e,he with
        | .returned v,he=>exact Dl l n hout L _ _ hd.2 he
        | .panicked chain,he=>exact he
        | .outgrown,he=>exact he
      | .halt (.panic v) w',hr=>exact hr
     exact mono _
    exact absurd h hout
   rename_i hw
   rw [if_neg hw]
   exact ⟨fun _ _=>trivial,Dl l n hout L _ _ hd.2 h⟩
theorem BN{l n id:Nat}{L:List Oper}(hout:¬LetsOut Q)(hd:(L.all fun o=>PS o.op)=true)(h:wpList P L.toArray Q L a w):(Code.region id L.toArray false).wpIn (Fence.wide.inRound l) n P Q a w:=
 wpIn_region_lit (Dl l n hout L a w hd h)
end
def GF(r:Au):Prop:=∀w f,r.holds w f→∀b∈f,∃o:Obj,w.heap[b]? =some o∧o.isCells=true
theorem De(g:Nat)(cs:List Value):GF (blk g cs):=by
 rintro w f ⟨rfl,t,h⟩ b hb
 obtain rfl:b=g:=by simpa using hb
 exact ⟨_,h,rfl⟩
theorem GM(e:TypeId)(s:Nat)(a:Option Addr)(n c:Nat)(xs:List Value):GF (own e s a n c xs):=by
 rintro w f ⟨rfl,h⟩ b hb
 rcases h.2 with h2|⟨g,cap,cur,k1,k2,k3,k4⟩
 ·cases h2.1
  simp [Value.ownBlock] at hb
 rw [k1] at hb
 obtain rfl:b=g:=by simpa [Value.ownBlock] using hb
 exact ⟨_,k3,rfl⟩
theorem FU{w:World}:∀{rs:List Au} {f:List Nat},(∀r∈rs,GF r)→DQ w rs f→∀b∈f,∃o:Obj,w.heap[b]? =some o∧o.isCells=true
 | [],f,_,h,b,hb=>by have h:f=[]:=h;subst h;cases hb
 | r::rs,f,hc,⟨f1,f2,e,h1,h2⟩,b,hb=>by
   subst e
   rcases List.mem_append.1 hb with hb|hb
   ·exact hc r (by simp) w f1 h1 b hb
   exact FU (fun x hx=>hc x (by simp [hx])) h2 b hb
theorem Kn{rs:List Au}(h:∀r∈rs,GF r):GF (star rs):=fun w f ⟨_,hf⟩=>FU h hf
def Mn(w0:World)(B:Nat):List Nat:=((List.range w0.heap.size).filter fun k=>decide (B≤k)&&(match w0.heap[k]? with|some o=>!o.isCells|none=>false))
theorem FF(w0:World)(B k:Nat):k∈Mn w0 B↔B≤k∧∃o:Obj,w0.heap[k]? =some o∧o.isCells=false:=by
 unfold Mn
 rw [List.mem_filter,List.mem_range,Bool.and_eq_true,decide_eq_true_eq]
 constructor
 ·rintro ⟨h1,h2,h3⟩
  refine ⟨h2,?_⟩
  cases ho:w0.heap[k]? with
  | none=>rw [ho] at h3;cases h3
  | some o=>rw [ho] at h3;exact ⟨o,rfl,by simpa using h3⟩
 rintro ⟨h1,o,h2,h3⟩
 refine ⟨(Array.getElem?_eq_some_iff.1 h2).1,h1,?_⟩
 rw [h2];simp [h3]
def fixd(w0:World)(B:Nat):Au where
 holds w f:=f=Mn w0 B∧∀k∈f,w.heap[k]? =w0.heap[k]?
 lt:=fun {w f} ⟨e,h2⟩ b hb=>by
  have h3:=h2 b hb
  rw [e] at hb
  obtain ⟨_,o,h4,_⟩:=(FF w0 B b).1 hb
  rw [h4] at h3
  exact (Array.getElem?_eq_some_iff.1 h3).1
 loc:=fun ⟨e,h2⟩ hs=>⟨e,fun k hk=>(hs k hk).trans (h2 k hk)⟩
theorem St.grownC{W w w':World}{row:Option Nat}{rs:List Au}(h:St W w rs)(hg:w.grownBy w' row)(hr:∀r,row=some r→W.heap.size≤r∧∃o:Obj,w.heap[r]? =some o∧o.isCells=false)(hc:∀r∈rs,GF r):St W w' rs:=by
 obtain ⟨h1,f,h2,h3,h4⟩:=h
 have ho:=E4.grown hg
 refine ⟨ho.ext h1 (fun b hb=>(hr b (by cases row<;>simp_all)).1),f,h2,h3,h4.loc fun b hb=>ho.block b (h4.lt b hb) fun hm=>?_⟩
 obtain ⟨o,k1,k2⟩:=(hr b (by cases row<;>simp_all)).2
 obtain ⟨o',k3,k4⟩:=FU hc h4 b hb
 rw [k1] at k3
 obtain rfl:=Option.some.inj k3
 rw [k2] at k4
 cases k4
theorem St.fixd{w0 W:World}{rs:List Au}(h:St w0 W rs)(hc:∀r∈rs,GF r):St w0 W (fixd W w0.heap.size::rs):=by
 obtain ⟨h1,f,h2,h3,h4⟩:=h
 refine ⟨h1,Mn W w0.heap.size++f,List.nodup_append.2 ⟨List.Pairwise.filter _ List.nodup_range,h2,fun a ha b hb hab=>?_⟩,fun b hb=>?_,Mn W w0.heap.size,f,rfl,⟨rfl,fun _ _=>rfl⟩,h4⟩
 ·subst hab
  obtain ⟨_,o,k1,k2⟩:=(FF _ _ _).1 ha
  obtain ⟨o',k3,k4⟩:=FU hc h4 a hb
  rw [k1] at k3
  obtain rfl:=Option.some.inj k3
  rw [k2] at k4
  cases k4
 rcases List.mem_append.1 hb with hb|hb
 ·exact ((FF _ _ _).1 hb).1
 exact h3 b hb
theorem N6{w0 W w:World}{rs rs':List Au}(h:St w0 w rs)(p:AW (Go.Proofs.YtohacgmhmbijmaaGreatDoor.fixd W w0.heap.size) rs rs')(h0:Ah w0 W)(hs:W.heap.size≤w.heap.size):KeepsOthers W w:=by
 obtain ⟨h1,f,h2,h3,f1,f2,e,⟨k1,k2⟩,h5⟩:=h.pull p
 refine ⟨hs,fun k o hk ho=>?_⟩
 by_cases hl:k<w0.heap.size
 ·rw [h1.at hl,←h0.at hl];exact hk
 rw [k2 k (by rw [k1];exact (FF _ _ _).2 ⟨by omega,o,hk,ho⟩)];exact hk
theorem dQ{w0 W w:World}{B k:Nat}{o:Obj}{rs rs':List Au}(h:St w0 w rs)(p:AW (Go.Proofs.YtohacgmhmbijmaaGreatDoor.fixd W B) rs rs')(hB:B≤k)(hk:W.heap[k]? =some o)(ho:o.isCells=false):w.heap[k]? =some o:=by
 obtain ⟨h1,f,h2,h3,f1,f2,e,⟨k1,k2⟩,h5⟩:=h.pull p
 rw [k2 k (by rw [k1];exact (FF _ _ _).2 ⟨hB,o,hk,ho⟩)];exact hk
theorem Zk{W w:World}{rs rs':List Au}{e:TypeId}{s n c:Nat}{ad:Addr}{xs:List Value}(h:St W w rs)(p:AW (own e s (some ad) n c xs) rs rs'):W.heap.size≤ad.block∧ad.block<w.heap.size:=by
 obtain ⟨h1,f,h2,h3,f1,f2,e9,h9,h5⟩:=h.pull p
 have k1:=h9.1
 have hm:ad.block∈f1:=by rw [k1];simp [Value.ownBlock]
 subst e9
 have hl:=DQ.lt (rs:=[own _ s (some ad) n c xs]) (w:=w) (f:=f1) ⟨f1,[],(List.append_nil _).symm,h9,rfl⟩ _ hm
 exact ⟨h3 _ (List.mem_append_left _ hm),hl⟩
section
variable{P:Program}{W w:World}{rs rs':List Au}{Q:Exit→Act→World→Prop}{K:Act→World→Prop}{o:Oper}{a:Act}
theorem XU(hS:St W w rs)(ty:TypeId)(x y:Operand)(ho:o.op= .store ty x y)(g q:Nat)(hx:a.eval x= .pointer (some ⟨g,q,none⟩))(m:Nat)(h1:Fi P ty m)(e:TypeId)(s n c:Nat)(A old new B:List Value)(hp:AW (own e s (some ⟨g,0,none⟩) n c (A++(old++B))) rs rs')
 (hq:q=A.length) (hol:old.length=m) (hnl:new.length=m) (hone:new.all (·.oneCell')=true) (hy:a.eval y= .agg new.toArray) (hd:o.dst=none) (h:∀w',St W w' (own e s (some ⟨g,0,none⟩) n c (A++(new++B))::rs')→K a w'):o.wp P a w K Q:=by
 subst hq
 have hown:=hS.own hp
 have hlen:=hown.1
 rcases hown.2 with ⟨h2,_⟩|⟨g',cap,cur,h2,hb,hg,hn,hc,hsz,htake⟩
 ·cases h2
 cases h2
 have ecur:cur.toList=A++(old++(B++cur.toList.drop (n*s))):=by
  conv=>lhs;rw [←List.take_append_drop (n*s) cur.toList,htake]
  simp
 refine wp_store_mid ty x y ho g A.length new.toArray hx hy ?_ (by rw [h1.2];simp [hnl]) (by simpa using hone) ?_
 ·intro i hi
  rw [List.size_toArray,hnl] at hi
  refine ⟨?_,frozen_of_row w g _ cur e hg⟩
  have:=G6 hS hp (k:=A.length+i) (v:=(A++(old++B))[A.length+i]'(by simp;omega)) (by rw [List.getElem?_eq_getElem])
  rw [this];rfl
 rw [show a.put o.dst undef=a by rw [hd];rfl]
 refine h _ ?_
 refine St.change (rs1:=[own e s (some ⟨g,0,none⟩) n c (A++(new++B))]) (hS.pull hp) fun f1 k1 _ _=>?_
 obtain ⟨rfl,_⟩:=k1
 obtain ⟨cur',k2,k3,k4⟩:=Ga w g e [] [] (B++cur.toList.drop (n*s)) new old A w cur hg ecur (by rw [hol,hnl])
 have hAB:(A++(new++B)).length=n*s:=by rw [←hlen];simp [hol,hnl]
 refine ⟨[g],⟨[g],[],rfl,⟨rfl,hAB, .inr ⟨g,c,cur',rfl,hb,k2,hn,hc,?_,?_⟩⟩,rfl⟩,by simp,fun b hb=> .inl hb,k4⟩
 ·have a1:=congrArg List.length k3
  have a2:=congrArg List.length ecur
  simp only [List.length_append,Array.length_toList,hol,hnl] at a1 a2
  omega
 have a3:cur'.toList=(A++(new++B))++cur.toList.drop (n*s):=by rw [k3];simp
 rw [a3,List.take_left' hAB]
end
end Go.Proofs.YtohacgmhmbijmaaGreatDoor
