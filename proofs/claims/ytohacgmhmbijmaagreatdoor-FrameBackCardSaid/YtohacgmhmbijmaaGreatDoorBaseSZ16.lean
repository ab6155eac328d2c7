/- What the laws RescueWhole TopTold FrameBack need, part 16. -/
import Derived.Test.YtohacgmhmbijmaaGreatDoorBaseSZ2
import Derived.Test.YtohacgmhmbijmaaGreatDoorBaseSZ3
import Derived.Test.YtohacgmhmbijmaaGreatDoorBaseSZ4
import Derived.Test.YtohacgmhmbijmaaGreatDoorBaseSZ5
import Derived.Test.YtohacgmhmbijmaaGreatDoorBaseSZ8
import Derived.Test.YtohacgmhmbijmaaGreatDoorBaseSZ10
import Derived.Test.YtohacgmhmbijmaaGreatDoorBaseSZ11
import Derived.Test.YtohacgmhmbijmaaGreatDoorBaseSZ15
import Derived.RangeFuncNested
import Derived.RangeFuncBound
import Derived.RangeFuncCalls
import Derived.RangeFuncLeaves
import Derived.RangeFuncFrom
import Derived.OwnWalkIn
import Derived.LoopIn
namespace Go.Proofs.YtohacgmhmbijmaaGreatDoor
attribute [local irreducible] Region.wanted
set_option linter.unusedVariables false
set_option maxRecDepth 100000
set_option maxHeartbeats 8000000
def CF(c:List Int)(n:Nat):List Int:=((List.range n).filter fun s=>decide (0<AJ c s)).map fun (s:Nat)=>(s:Int)
def T0(c:List Int)(s:Int):Int:=if s= -1 then 0 else AJ c s.toNat
theorem Bj(c:List Int)(n:Nat)(s:Int):s∈CF c n↔0≤s∧s<n∧0<AJ c s.toNat:=by
 unfold CF
 simp only [List.mem_map,List.mem_filter,List.mem_range,decide_eq_true_eq]
 constructor
 ·rintro ⟨a,⟨h1,h2⟩,rfl⟩;exact ⟨by omega,by omega,by simpa using h2⟩
 intro ⟨h1,h2,h3⟩;exact ⟨s.toNat,⟨by omega,h3⟩,by omega⟩
theorem Lq(c:List Int)(n:Nat):(CF c n).Nodup:=by
 unfold CF
 rw [List.nodup_iff_pairwise_ne,List.pairwise_map]
 refine List.Pairwise.imp ?_ (List.Pairwise.filter _ List.nodup_range)
 intro a b h e
 exact h (by omega)
theorem YD(c:List Int)(n:Nat):JN (KC c n) (-1::CF c n):=by
 refine ⟨?_,List.nodup_cons.2 ⟨fun h=>by have:=(Bj c n _).1 h;omega,Lq c n⟩⟩
 unfold KC CF
 simp [List.map_map,Function.comp_def]
theorem gA(c:List Int)(n:Nat):∀x∈KC c n,x.1=isum (T0 c) x.2:=by
 intro x hx
 rcases List.mem_cons.1 hx with rfl|hx
 ·simp [isum,T0]
 obtain ⟨s,_,rfl⟩:=List.mem_map.1 hx
 simp only [isum,List.map_cons,List.map_nil,List.sum_cons,List.sum_nil,T0]
 rw [if_neg (by omega)];simp
theorem OL(c:Nat→Nat):∀k,k≤16→nx c k*2^(16-k)=sm (fun i=>c i*2^(15-i)) k
 | 0,_=>by simp [nx,sm]
 | k+1,h=>by
   have ih:=OL c k (by omega)
   rw [sm,←ih,nx,Nat.add_mul,show 16-k=(16-(k+1))+1 by omega,show 16-(k+1)=15-k by omega,Nat.pow_succ]
   rw [Nat.mul_comm 2 (nx c k),Nat.mul_assoc,Nat.mul_comm 2 (2^(15-k))]
theorem Od(a b:Nat→Nat):∀k,sm (fun i=>a i+b i) k=sm a k+sm b k
 | 0=>rfl
 | k+1=>by simp only [sm];rw [Od a b k];omega
theorem Gq{a b:Nat→Nat}:∀k,(∀i,i<k→a i=b i)→sm a k=sm b k
 | 0,_=>rfl
 | k+1,h=>by simp only [sm];rw [Gq k fun i hi=>h i (by omega),h k (by omega)]
def IS(l:Nat):Nat:=if 1≤l then 2^(16-l) else 0
theorem aX(l:Nat)(h:l≤16):sm (fun i=>(if l=i+1 then 1 else 0)*2^(15-i)) 16=IS l:=by
 have:∀l,l<17→sm (fun i=>(if l=i+1 then 1 else 0)*2^(15-i)) 16=IS l:=by decide
 exact this l (by omega)
theorem QS(f:Int→Nat)(hf:∀s,f s≤16):∀n,sm (fun i=>(CH f n (i+1)).length*2^(15-i)) 16=A3 (fun s:Nat=>IS (f (s:Int))) (List.range n)
 | 0=>by simp [CH,A3];decide
 | n+1=>by
   rw [List.range_succ,GJ,←QS f hf n]
   have:A3 (fun s:Nat=>IS (f (s:Int))) [n]=IS (f (n:Int)):=by simp [A3]
   rw [this,←aX _ (hf _),←Od]
   refine Gq 16 fun i hi=>?_
   rw [IA,←Nat.add_mul]
   by_cases h:f (n:Int)=i+1
   ·rw [if_pos h,if_pos h,List.length_append];rfl
   rw [if_neg h,if_neg h];rfl
theorem Ij{α β:Type}(g:α→β)(f:β→Nat)(l:List α):A3 f (l.map g)=A3 (fun x=>f (g x)) l:=by
 unfold A3;rw [List.map_map];rfl
theorem XB{α β:Type}(g:α→β)(f:β→Int)(l:List α):isum f (l.map g)=isum (fun x=>f (g x)) l:=by
 unfold isum;rw [List.map_map];rfl
theorem P9{α:Type}(p:α→Bool)(f:α→Nat)(l:List α)(h:∀x∈l,p x=false→f x=0):A3 f (l.filter p)=A3 f l:=by
 induction l with
 | nil=>rfl
 | cons x l ih=>
   have ih:=ih fun y hy=>h y (by simp [hy])
   rw [List.filter_cons]
   by_cases hp:p x=true
   ·rw [if_pos hp,BB,BB,ih]
   rw [if_neg hp,BB,ih,h x (by simp) (by simpa using hp),Nat.zero_add]
theorem P1{α:Type}(p:α→Bool)(f:α→Int)(l:List α)(h:∀x∈l,p x=false→f x=0):isum f (l.filter p)=isum f l:=by
 induction l with
 | nil=>rfl
 | cons x l ih=>
   have ih:=ih fun y hy=>h y (by simp [hy])
   rw [List.filter_cons]
   by_cases hp:p x=true
   ·rw [if_pos hp,CN,CN,ih]
   rw [if_neg hp,CN,ih,h x (by simp) (by simpa using hp),Int.zero_add]
def GF(c:List Int)(n:Nat)(l:Int→Nat):Int:=isum (fun s:Nat=>AJ c s*(l (s:Int):Nat)) (List.range n)
structure Mu(c:List Int)(n:Nat)(l:Int→Nat):Prop where
 top:∀s∈CF c n,1≤l s∧l s≤16
 kraft:A3 (fun s=>2^(16-l s)) (CF c n)<2^16
theorem M7(c:List Int)(n:Nat)(l:Int→Nat)(h0:∀i,i<n→0≤AJ c i):isum (fun s=>T0 c s*(l s:Nat)) (CF c n)=GF c n l:=by
 unfold CF GF
 rw [XB,EZ _ (fun s:Nat=>AJ c s*(l (s:Int):Nat)) _ fun s _=>?_]
 ·refine P1 _ _ _ fun x hx hp=>?_
  have:=h0 x (List.mem_range.1 hx)
  have h1:¬0<AJ c x:=by simpa using hp
  rw [show AJ c x=0 by omega,Int.zero_mul]
 unfold T0;rw [if_neg (by omega)];simp
theorem XI{c:List Int}{n:Nat}{R:List Pk}(hn:n≤256)(h0:∀i,i<n→0≤AJ c i)(hR:Cn (KC c n) 16 R)(f:Int→Nat)(hf:f=Ec (R.take (2*(KC c n).length-2))):
 (∀s,f s≤16)∧(∀s,s∉CF c n→0≤s→f s=0)∧Mu c n f∧(∀l,Mu c n l→GF c n f≤GF c n l)∧(∀a b,a∈CF c n→b∈CF c n→AJ c b.toNat<AJ c a.toNat→f a≤f b):=by
 have hS:=YD c n
 have hlen:=hS.len
 have hpl:(CF c n).length≤n:=by
  unfold CF
  have:=List.length_filter_le (fun s=>decide (0<AJ c s)) (List.range n)
  simp at this⊢;exact this
 have hw0:∀s∈(-1::CF c n),0≤T0 c s:=fun s hs=>by
  rcases List.mem_cons.1 hs with rfl|hs
  ·simp [T0]
  have:=(Bj c n s).1 hs
  unfold T0;rw [if_neg (by omega)];omega
 obtain ⟨_,b1,b2,b3,b4,b5⟩:=UT hS (T0 c) (gA c n) hw0 (by simp) (by simp;omega) hR
 rw [←hlen,←hf] at b1 b2 b3 b4 b5
 have hpos:∀s∈CF c n,1≤f s:=fun s hs=>U8 b3 (List.mem_cons_of_mem _ hs) (List.mem_cons_self (a:= -1)) (by have:=(Bj c n s).1 hs;omega)
 rw [BB] at b3
 have hone:1≤2^(16-f (-1)):=Nat.one_le_two_pow
 refine ⟨b1,fun s hs hs0=>b2 s (by simp only [List.mem_cons,not_or];exact ⟨by omega,hs⟩),⟨fun s hs=>⟨hpos s hs,b1 s⟩,by omega⟩,fun l hl=>?_,fun a b ha hb hab=>?_⟩
 ·have hb4:=b4 (fun s=>if s= -1 then 16 else l s) (fun s hs=>by
   show (if s= -1 then 16 else l s)≤16
   rcases List.mem_cons.1 hs with rfl|hs
   ·simp
   ·have:=(Bj c n s).1 hs
    rw [if_neg (by omega)];exact (hl.top s hs).2) (by
   rw [BB]
   have:=hl.kraft
   have e:A3 (fun s=>2^(16-(if s= -1 then 16 else l s))) (CF c n)=A3 (fun s=>2^(16-l s)) (CF c n):=Cj _ _ _ fun s hs=>by
    have:=(Bj c n s).1 hs
    rw [if_neg (by omega)]
   rw [e];simp;simp at this;omega)
  rw [CN,CN] at hb4
  have z:∀x:Int,T0 c (-1)*x=0:=fun x=>by simp [T0]
  rw [z,z,M7 c n f h0] at hb4
  have e:isum (fun s=>T0 c s*((if s= -1 then 16 else l s:Nat):Int)) (CF c n)=isum (fun s=>T0 c s*(l s:Nat)) (CF c n):=EZ _ _ _ fun s hs=>by
   have:=(Bj c n s).1 hs
   rw [if_neg (by omega)]
  rw [e,M7 c n l h0] at hb4
  omega
 have h1:=(Bj c n a).1 ha
 have h2:=(Bj c n b).1 hb
 exact b5 a b (List.mem_cons_of_mem _ hb) (by unfold T0;rw [if_neg (by omega),if_neg (by omega)];exact hab)
theorem Lh{a b:Nat→Nat}:∀k,(∀i,i<k→a i=b i)→nx a k=nx b k
 | 0,_=>rfl
 | k+1,h=>by rw [nx,nx,Lh k fun i hi=>h i (by omega),h k (by omega)]
theorem Mz{a b:Nat→Nat}:∀k,(∀i,i<k→a i=b i)→Gd a k=Gd b k
 | 0,_=>rfl
 | k+1,h=>by rw [Gd,Gd,Mz k fun i hi=>h i (by omega),h k (by omega),Lh k fun i hi=>h i (by omega)]
theorem XW(l:Nat)(h:l≤16):sm (fun i=>if l=i+1 then 1 else 0) 16=if 1≤l then 1 else 0:=by
 have:∀l,l<17→sm (fun i=>if l=i+1 then 1 else 0) 16=if 1≤l then 1 else 0:=by decide
 exact this l (by omega)
theorem QR(f:Int→Nat)(hf:∀s,f s≤16):∀n,sm (fun i=>(CH f n (i+1)).length) 16=A3 (fun s:Nat=>if 1≤f (s:Int) then 1 else 0) (List.range n)
 | 0=>by simp [CH,A3];decide
 | n+1=>by
   rw [List.range_succ,GJ,←QR f hf n]
   have:A3 (fun s:Nat=>if 1≤f (s:Int) then 1 else 0) [n]=if 1≤f (n:Int) then 1 else 0:=by simp [A3]
   rw [this,←XW _ (hf _),←Od]
   refine Gq 16 fun i hi=>?_
   rw [IA]
   by_cases h:f (n:Int)=i+1
   ·rw [if_pos h,if_pos h,List.length_append];rfl
   rw [if_neg h,if_neg h];rfl
theorem Gu(f:Int→Nat)(n:Nat):∀k,(DE f n k).length=sm (fun i=>(CH f n (i+1)).length) k
 | 0=>rfl
 | k+1=>by rw [DH,List.length_append,Gu f n k,sm]
theorem Jl(f:Int→Nat)(n k:Nat)(s:Int):s∈CH f n k↔0≤s∧s<n∧f s=k:=by
 unfold CH
 simp only [List.mem_map,List.mem_filter,List.mem_range,decide_eq_true_eq]
 constructor
 ·rintro ⟨a,⟨h1,h2⟩,rfl⟩;exact ⟨by omega,by omega,h2⟩
 intro ⟨h1,h2,h3⟩;exact ⟨s.toNat,⟨by omega,by rw [Int.toNat_of_nonneg h1];exact h3⟩,by omega⟩
theorem Qf(f:Int→Nat)(n k:Nat):(CH f n k).Nodup:=by
 unfold CH
 rw [List.nodup_iff_pairwise_ne,List.pairwise_map]
 refine List.Pairwise.imp ?_ (List.Pairwise.filter _ List.nodup_range)
 intro a b h e
 exact h (by omega)
theorem IB(f:Int→Nat)(n:Nat)(s:Int):∀k,s∈DE f n k↔0≤s∧s<n∧1≤f s∧f s≤k
 | 0=>by simp [DE];intro _ _ _;omega
 | k+1=>by
   rw [DH,List.mem_append,IB f n s k,Jl]
   constructor
   ·rintro (h|h)<;>omega
   intro h
   by_cases e:f s=k+1
   ·right;omega
   left;omega
theorem I3(f:Int→Nat)(n:Nat):∀k,(DE f n k).Nodup
 | 0=>by simp [DE]
 | k+1=>by
   rw [DH,List.nodup_append]
   refine ⟨I3 f n k,Qf f n (k+1),fun a ha b hb e=>?_⟩
   subst e
   have h1:=(IB f n a k).1 ha
   have h2:=(Jl f n (k+1) a).1 hb
   omega
theorem Np(f:Int→Nat)(n:Nat):∀k,∀x∈(DE f n k).zip (Gd (fun i=>(CH f n (i+1)).length) k),x.2.1=f x.1
 | 0,x,h=>by simp [DE] at h
 | k+1,x,h=>by
   rw [DH,Gd,List.zip_append (by rw [Gu,Fe])] at h
   rcases List.mem_append.1 h with h|h
   ·exact Np f n k x h
   have h1:=(List.of_mem_zip (a:=x.1) (b:=x.2) h)
   obtain ⟨j,_,e⟩:=List.mem_map.1 h1.2
   have h2:=(Jl f n (k+1) x.1).1 h1.1
   rw [h2.2.2,←e]
def lw(L:List (Int×Nat×Nat))(s:Int):Nat:=match symW L s with
 | some x=>x.1
 | none=>0
theorem T3{C S:List Int}(h:sm (cc C) 16=S.length):(Bw C S).map (·.1)=S:=by
 unfold Bw
 exact List.map_fst_zip (by rw [Fe,h];exact Nat.le_refl _)
theorem be{C S:List Int}(h:sm (cc C) 16=S.length):(Bw C S).map (·.2)=Gd (cc C) 16:=by
 unfold Bw
 exact List.map_snd_zip (by rw [Fe,h];exact Nat.le_refl _)
theorem Rm{C S:List Int}(h:A4 C S=0){x:Int×Nat×Nat}(hx:x∈Bw C S):symW (Bw C S) x.1=some x.2∧lw (Bw C S) x.1=x.2.1:=by
 have:=(Bu h).symW hx
 exact ⟨this,by unfold lw;rw [this]⟩
theorem cC{C S:List Int}(h:A4 C S=0){s:Int}(hs:s∈S):∃x∈Bw C S,x.1=s:=by
 have h2:=(B8 h).2.1
 rw [←T3 h2] at hs
 obtain ⟨x,hx,e⟩:=List.mem_map.1 hs
 exact ⟨x,hx,e⟩
theorem XH{C S:List Int}(h:A4 C S=0)(s:Int):(s∈S→1≤lw (Bw C S) s∧lw (Bw C S) s≤16)∧(s∉S→lw (Bw C S) s=0):=by
 constructor
 ·intro hs
  obtain ⟨x,hx,rfl⟩:=cC h hs
  rw [(Rm h hx).2]
  have:=(Bu h).long x hx
  omega
 intro hs
 unfold lw
 cases e:symW (Bw C S) s with
 | none=>rfl
 | some y=>exact absurd (Kr C S _ (FU e)).1 hs
theorem Rn{c C S:List Int}{n:Nat}{f:Int→Nat}(hn:n≤256)(h16:∀s,f s≤16)(hz:∀s,s∉CF c n→0≤s→f s=0)(hl:Mu c n f)(hC:∀i,i<16→AJ C i=((CH f n (i+1)).length:Nat))(hS:S=DE f n 16):
 A4 C S=0∧(∀s:Int,0≤s→s<n→lw (Bw C S) s=f s)∧S.length=(CF c n).length∧(∀s,s∈S↔s∈CF c n):=by
 have hcc:∀i,i<16→cc C i=(CH f n (i+1)).length:=fun i hi=>by unfold cc;rw [hC i hi];simp
 have hmem:∀s,s∈S↔s∈CF c n:=fun s=>by
  rw [hS,IB]
  constructor
  ·intro h
   by_cases hp:s∈CF c n
   ·exact hp
   have:=hz s hp h.1;omega
  intro h
  have h1:=(Bj c n s).1 h
  have h2:=hl.top s h
  exact ⟨h1.1,h1.2.1,h2.1,h2.2⟩
 have hsm:sm (cc C) 16=S.length:=by rw [hS,Gu,Gq 16 hcc]
 have hlen:S.length=(CF c n).length:=by
  rw [hS,Gu,QR f h16]
  unfold CF
  rw [List.length_map,←XR]
  refine Cj _ _ _ fun s hs=>?_
  by_cases hp:(s:Int)∈CF c n
  ·have h1:=(Bj c n s).1 hp
   rw [if_pos (hl.top _ hp).1,if_pos (by simpa using h1.2.2)]
  have h1:¬0<AJ c s:=fun h=>hp ((Bj c n s).2 ⟨by omega,by simp at hs;omega,by simpa using h⟩)
  rw [if_neg (by rw [hz _ hp (by omega)];omega),if_neg (by simpa using h1)]
 have hpl:(CF c n).length≤n:=by
  unfold CF
  have:=List.length_filter_le (fun s=>decide (0<AJ c s)) (List.range n)
  simp at this⊢;exact this
 have hnx:nx (cc C) 16<65536:=by
  have h1:=OL (fun i=>(CH f n (i+1)).length) 16 (by omega)
  rw [QS f h16] at h1
  rw [Lh 16 hcc]
  have h2:A3 (fun s:Nat=>IS (f (s:Int))) (List.range n)=A3 (fun s=>2^(16-f s)) (CF c n):=by
   unfold CF
   rw [Ij,←P9 (fun s=>decide (0<AJ c s)) (fun s:Nat=>IS (f (s:Int))) (List.range n) fun s hs hp=>?_]
   ·refine Cj _ _ _ fun s hs=>?_
    have h3:=List.mem_filter.1 hs
    have hp:(s:Int)∈CF c n:=(Bj c n s).2 ⟨by omega,by have:=h3.1;simp at this;omega,by simpa using h3.2⟩
    unfold IS;rw [if_pos (hl.top _ hp).1]
   have hp2:(s:Int)∉CF c n:=fun h=>by have:=((Bj c n s).1 h).2.2;simp at this hp;omega
   unfold IS;rw [hz _ hp2 (by omega)];rfl
  rw [h2] at h1
  have:=hl.kraft
  simp at h1 this
  omega
 have htab:A4 C S=0:=by
  refine bS ((EO C).2 ⟨fun k hk=>?_,by omega⟩) hsm (fun s hs=>?_) (by rw [hS];exact I3 f n 16) ((Gp _).2 hnx)
  ·have:=Gt f n (k+1)
   rw [hC k hk];omega
  have:=(Bj c n s).1 ((hmem s).1 hs);omega
 refine ⟨htab,fun s h0 h1=>?_,hlen,hmem⟩
 by_cases hs:s∈S
 ·obtain ⟨x,hx,rfl⟩:=cC htab hs
  rw [(Rm htab hx).2]
  refine Np f n 16 x ?_
  unfold Bw at hx
  rw [hS,Mz 16 hcc] at hx
  exact hx
 rw [(XH htab s).2 hs,hz s (fun h=>hs ((hmem s).2 h)) h0]
theorem QA{α:Type}[DecidableEq α](f:α→Nat):∀(A B:List α),A.Nodup→(∀a∈A,a∈B)→A3 f A≤A3 f B
 | [],B,_,_=>by simp [A3]
 | a::A,B,hn,h=>by
   obtain ⟨h1,h2⟩:=List.nodup_cons.1 hn
   have p:=List.perm_cons_erase (h a (by simp))
   rw [VH f p,BB,BB]
   have:=QA f A (B.erase a) h2 fun x hx=>(List.mem_erase_of_ne (fun e=>h1 (by rw [←e];exact hx))).2 (h x (by simp [hx]))
   omega
theorem So(c:Nat→Nat):∀k,k≤16→A3 (fun x=>2^(16-x.1)) (Gd c k)=nx c k*2^(16-k)
 | 0,_=>by simp [Gd,A3,nx]
 | k+1,h=>by
   rw [OL c (k+1) h,sm,←OL c k (by omega),←So c k (by omega),Gd,GJ,Ij]
   refine congrArg (_+ ·) ?_
   have:∀m,A3 (fun _:Nat=>2^(16-(k+1))) (List.range m)=m*2^(15-k):=fun m=>by
    have:=Ik (fun _:Nat=>1) (2^(15-k)) (List.range m)
    simp only [Nat.one_mul] at this
    rw [show 16-(k+1)=15-k by omega,this,Hy,List.length_range]
   exact this (c k)
theorem Vd{C S:List Int}(h:A4 C S=0)(c:List Int)(n:Nat)(hall:∀s∈CF c n,s∈S):Mu c n (lw (Bw C S)):=by
 obtain ⟨h1,h2,h3,h4,h5,h6⟩:=B8 h
 refine ⟨fun s hs=>(XH h s).1 (hall s hs),?_⟩
 have a1:=QA (fun s=>2^(16-lw (Bw C S) s)) (CF c n) S (Lq c n) hall
 have a2:A3 (fun s=>2^(16-lw (Bw C S) s)) S=A3 (fun x=>2^(16-x.2.1)) (Bw C S):=by
  have e1:=Ij (fun x:Int×Nat×Nat=>x.1) (fun s=>2^(16-lw (Bw C S) s)) (Bw C S)
  rw [T3 h2] at e1
  rw [e1]
  exact Cj _ _ _ fun x hx=>by rw [(Rm h hx).2]
 have a3:A3 (fun x:Int×Nat×Nat=>2^(16-x.2.1)) (Bw C S)=A3 (fun x=>2^(16-x.1)) (Gd (cc C) 16):=by
  rw [←be h2,Ij]
 have a4:=So (cc C) 16 (Nat.le_refl _)
 have a5:=(Gp _).1 h6
 simp at a4
 have:(2:Nat)^16=65536:=by decide
 omega
end Go.Proofs.YtohacgmhmbijmaaGreatDoor
namespace Go.Proofs.YtohacgmhmbijmaaGreatDoor
attribute [local irreducible] Region.wanted
open Go.RowKit
set_option linter.unusedVariables false
set_option maxRecDepth 100000
set_option maxHeartbeats 8000000
structure Mk(c:List Int)(n:Nat)(C S:List Int):Prop where
 len:Ac C 16
 ok:A4 C S=0
 mem:∀s,s∈S↔s∈CF c n
 slen:S.length=(CF c n).length
 best:∀l,Mu c n l→GF c n (lw (Bw C S))≤GF c n l
 order:∀a b,a∈CF c n→b∈CF c n→AJ c b.toNat<AJ c a.toNat→lw (Bw C S) a≤lw (Bw C S) b
 lens:Mu c n (lw (Bw C S))
theorem PV(c:List Int)(n:Nat)(f g:Int→Nat)(h:∀s:Int,0≤s→s<n→f s=g s):GF c n f=GF c n g:=by
 unfold GF
 refine EZ _ _ _ fun s hs=>?_
 rw [h s (by omega) (by have:=List.mem_range.1 hs;omega)]
theorem fb{c:List Int}(h:bE c=0):c.length≤256∧∀i,i<c.length→0≤AJ c i∧AJ c i≤9999:=by
 unfold bE at h
 by_cases h1:256<c.length
 ·rw [if_pos h1] at h;cases h
 rw [if_neg h1] at h
 by_cases h2:B5 c 0 9999=true
 ·exact ⟨by omega,(BG c 0 9999).1 h2⟩
 rw [if_neg h2] at h;cases h
theorem fa{c:List Int}(h1:c.length≤256)(h2:∀i,i<c.length→0≤AJ c i∧AJ c i≤9999):bE c=0:=by
 unfold bE;rw [if_neg (by omega),if_pos ((BG c 0 9999).2 h2)]
theorem VB(w0:World)(c:List Int)(ad:Option Addr)(n cap:Nat)(hv:Sl w0 1 (.slice ad n cap) n (c.map (Value.int .i64)))(hn:n≤9223372036854775807)(hok:bE c=0):
 Calls Tryz.prog 72 #[.slice ad n cap] w0 fun e w=>∃(C S:List Int) (ao:Option Addr) (co:Nat),Mk c n C S∧e= .returned (.tuple #[tv C (.slice ao S.length co), .int .i64 0])∧St w0 w [own 3 1 ao S.length co (S.map (Value.int .i64))]:=by
 refine (XJ w0 c ad n cap hv hn hok).mono ?_
 rintro e w ⟨f,R,C,S,ao,co,hR,hf,hC,hCi,hSy,rfl,hS⟩
 have hcl:c.length=n:=by have:=hv.1;simpa using this
 obtain ⟨b1,b2⟩:=fb hok
 rw [hcl] at b1 b2
 obtain ⟨m1,m2,m3,m4,m5⟩:=XI b1 (fun i hi=>(b2 i hi).1) hR f hf
 obtain ⟨t1,t2,t3,t4⟩:=Rn b1 m1 m2 m3 hCi hSy
 have hin:∀s∈CF c n,0≤s∧s<n:=fun s hs=>by have:=(Bj c n s).1 hs;exact ⟨this.1,this.2.1⟩
 have hcost:GF c n (lw (Bw C S))=GF c n f:=PV _ _ _ _ t2
 refine ⟨C,S,ao,co,⟨hC,t1,t4,t3,fun l hl=>by rw [hcost];exact m4 l hl,fun a b ha hb h=>?_,Vd t1 c n fun s hs=>(t4 s).2 hs⟩,rfl,hS⟩
 rw [t2 a (hin a ha).1 (hin a ha).2,t2 b (hin b hb).1 (hin b hb).2]
 exact m5 a b ha hb h
theorem RJ(w:World):(Instr.build 32 #[]).run Tryz.prog w= .ok (tv (List.replicate 16 0) (.slice none 0 0)) w:=by kernel_rfl
theorem XK(w0:World)(c:List Int)(ad:Option Addr)(n cap:Nat)(hv:Sl w0 1 (.slice ad n cap) n (c.map (Value.int .i64)))(hn:n≤9223372036854775807)(hbad:bE c≠0):
 Calls Tryz.prog 72 #[.slice ad n cap] w0 fun e w=>e= .returned (.tuple #[tv (List.replicate 16 0) (.slice none 0 0), .int .i64 (bE c)])∧Af w0 w:=by
 have hS:=St.start w0
 have HCK:=AD (fun (w:World)(hE:Af w0 w)=>K5 w c ad n cap (hv.ext hE) hn)
 obtain ⟨B,hB⟩:∃B,bE c=B:=⟨_,rfl⟩
 rw [hB] at HCK hbad⊢
 clear hB
 go_enter Tryz.func72,Tryz.ntmps72
 repeat' (first
  | (refine Al 102 ?_);refine Am AA Tryz.call102 (HCK.out _ hS.1) (EW hS ?_);clear hS;intro w hS;go_step|refine X0 ?_|refine KT 22 ?_|refine RC 2 ?_;clear hS;intro g2 w hS|refine AH ?_;go_step|fail)
 repeat' (first
  | (refine AP 23 ?_);refine Ap AA (V.build (vs:=[]) rfl RJ) ?_;go_step|refine X0 ?_|refine RE ?_;clear hS;intro w hS|refine AH ?_;go_step|fail)
 refine AM (xs:=[_,_]) rfl (.cons (AB.prt hS rfl (AO (n:=17) rfl) AK (by (repeat (first|exact Bi.nil|(apply Bi.ints;(case hn=>exact DW);(case h=>omega);(case hm=>rfl))|apply Bi.val)))) (.cons (AB.tmp rfl) (.nil))) (by simp) rfl ?_
 exact ⟨rfl,hS.1⟩
theorem Yh:Ac (List.replicate 16 (0:Int)) 16:=List.length_replicate
theorem Yi:A4 (List.replicate 16 0) []=0:=by decide
theorem Fg:∀(T:List (CO×Bool))(A B:List Int),Dq B6 T (A,B)=(0,A++(T.filter fun x=>x.2).map (·.1.1),B++(T.filter fun x=>!x.2).map (·.1.1))
 | [],A,B=>by simp [Dq]
 | (t,b)::T,A,B=>by
  rw [Dq,if_pos (show (B6 (A,B) t b).1=0 from rfl)]
  cases b
  ·show Dq B6 T (A,B++[t.1])=_
   rw [Fg T];simp
  show Dq B6 T (A++[t.1],B)=_
  rw [Fg T];simp
theorem eM(l:List Int)(n:Nat):∀x∈DT l 0 n,(x.2=true→x.1.1∈Q5 l n)∧(x.2=false→x.1.1∈L4 l n):=by
 have h:=(Kc l n).symm.trans (Fg (DT l 0 n) [] [])
 simp only [Prod.mk.injEq,List.nil_append,true_and] at h
 intro x hx
 refine ⟨fun h2=>?_,fun h2=>?_⟩
 ·rw [h.1];exact List.mem_map.2 ⟨x,List.mem_filter.2 ⟨hx,h2⟩,rfl⟩
 rw [h.2];exact List.mem_map.2 ⟨x,List.mem_filter.2 ⟨hx,by rw [h2];rfl⟩,rfl⟩
theorem M0{L:List Int}(h:L.length≤9999):bE (Cu L)=0:=by
 refine fa (by rw [Dp];omega) fun i hi=>?_
 rw [Dp] at hi
 have:=Ho L hi
 omega
theorem VZ{l:List Int}{n:Nat}(hl:l.length=n*64):BA l 0 n=l:=by
 unfold BA
 rw [Nat.zero_mul,List.drop_zero,Nat.sub_zero,List.take_of_length_le (by omega)]
noncomputable def mR(C1 S1 C2 S2:List Int)(ps:List (List Int))(z:Int):Int×List Int:=match ps with
 | []=>(5,[])
 | p::_=>FQ C1 S1 C2 S2 p z
def C4(n:Nat):List Int:=List.replicate (n*64) 0
noncomputable def La(C1 S1 C2 S2:List Int):List (Nat×Nat)→List (List Int)→Nat→List Int×List Int
 | [],_,_=>([],[])
 | x::L,ps,k=>((if (mR C1 S1 C2 S2 ps ((x.2-x.1:Nat):Int)).1=0 then (mR C1 S1 C2 S2 ps ((x.2-x.1:Nat):Int)).2 else C4 (x.2-x.1))++(La C1 S1 C2 S2 L ps.tail (k+1)).1,
    (if (mR C1 S1 C2 S2 ps ((x.2-x.1:Nat):Int)).1=0 then [] else [(k:Int)])++(La C1 S1 C2 S2 L ps.tail (k+1)).2)
def Mv(w0:World)(E:Int)(B bad:List Int)(e:Ending)(w:World):Prop:=
 ∃ao co m ab cb mb,B.length=m*64∧bad.length=mb∧e= .returned (.tuple #[.slice ao m co, .slice ab mb cb, .int .i64 E])∧St w0 w [own 26 64 ao m co (B.map (Value.int .i64)),own 3 1 ab mb cb (bad.map (Value.int .i64))]
noncomputable def OV(C1 S1 C2 S2 b:List Int)(n every:Int):Int×List Int×List Int:=if JG C1 S1 C2 S2 b n every=0 then match D9 b [] [] [] with
 | none=>(4,[],[])
 | some y=>(0,La C1 S1 C2 S2 (BN n.toNat every.toNat) y.1 0)
 else (JG C1 S1 C2 S2 b n every,[],[])
theorem OW(w0:World)(C1 C2 S1 S2:List Int)(a1 a2:Option Addr)(n1 n2 k1 k2:Nat)(hC1:Ac C1 16)(hC2:Ac C2 16)(hs1:Sl w0 1 (.slice a1 n1 k1) n1 (S1.map (Value.int .i64)))(hs2:Sl w0 1 (.slice a2 n2 k2) n2 (S2.map (Value.int .i64)))(hn1:n1≤9223372036854775807)(hn2:n2≤9223372036854775807)(ad:Option Addr)(nb c:Nat)(b:List Int)(n every:Int)
 (hb:nb≤1000000000) (hv:Sl w0 1 (.slice ad nb c) nb (b.map (Value.int .u8))) (hx:∀x∈b,0≤x∧x<256) (hml:∃m,w0.cell? ⟨0,0,none⟩=some (.int .i64 m)):
 Calls Tryz.prog 57 #[.agg (AF [.ints C1, .val (.slice a1 n1 k1), .ints C2, .val (.slice a2 n2 k2)]).toArray, .slice ad nb c, .int .i64 n, .int .i64 every] w0 (Mv w0 (OV C1 S1 C2 S2 b n every).1 (OV C1 S1 C2 S2 b n every).2.1 (OV C1 S1 C2 S2 b n every).2.2):=by
 have hS:=St.start w0
 have HX:=AD hx
 have HML:=AD hml
 have hbl:b.length=nb:=by have:=hv.1;simpa using this
 clear hx hml
 by_cases hP:JG C1 S1 C2 S2 b n every=0
 case neg=>
  obtain ⟨E,hE⟩:∃E,JG C1 S1 C2 S2 b n every=E:=⟨_,rfl⟩
  have h0:E≠0:=by rw [←hE];exact hP
  have HE:=AD hE
  have HW:=AD (show OV C1 S1 C2 S2 b n every=(E,[],[]) by unfold OV;rw [if_neg hP,hE])
  clear hP hE
  go_enter Tryz.func57,Tryz.ntmps57
  repeat' (first
   | (refine AP 26 ?_);refine AG (f:=84) Tryz.call84 AA ?_;refine ⟨_,(Fk _ C1 C2 S1 S2 a1 a2 n1 n2 k1 k2 hC1 hC2 (hs1.ext hS.1) (hs2.ext hS.1) hn1 hn2 ad nb c b n every hb (hv.ext hS.1) HX.out),?_⟩;rintro e w ⟨hq,_⟩;rw [HE.out] at hq;obtain ⟨rfl,hE2⟩:=hq h0;clear hq;replace hS:=hS.ext hE2;clear hE2;refine AX ?_;go_step|refine X0 ?_|refine X4 ?_|refine X3 ?_|refine PE 4 ?_;clear hS;intro g4 w hS|refine PG ?_|refine AH ?_;go_step|fail)
  all_goals (try exact AQ)
  refine AM (xs:=[_,_,_]) rfl (.cons (AB.tmp rfl) (.cons (AB.tmp rfl) (.cons (AB.tmp rfl) (.nil)))) (by simp) rfl ?_
  exact ⟨none,0,0,none,0,0,by rw [HW.out];rfl,by rw [HW.out];rfl,by rw [HW.out];rfl,by rw [HW.out];exact ((St.of_ext hS.1).nil _ _).nil _ _⟩
 obtain ⟨hok,htb,⟨ps,ms⟩,hsp⟩:=Io hP
 unfold Im at hok
 obtain ⟨N,rfl⟩:∃N:Nat,n=(N:Int):=⟨n.toNat,by omega⟩
 obtain ⟨Ev,rfl⟩:∃N:Nat,every=(N:Int):=⟨every.toNat,by omega⟩
 obtain ⟨M,hM⟩:∃M,(BN N Ev).length=M:=⟨_,rfl⟩
 have hM4:M≤401:=by rw [←hM];have:=Oe N Ev;omega
 have HM:=AD hM
 have hin:=Lv b.length b [] [] [] _ ms (Nat.le_refl _) hsp HX.out (fun q hq=>(by cases hq)) (fun x hx=>(by cases hx)) nb (by simp;omega) (fun q hq=>(by cases hq))
 have HIN:=AD hin
 obtain ⟨⟨DB,Dm⟩,hD⟩:∃D,La C1 S1 C2 S2 (BN N Ev) ps 0=D:=⟨_,rfl⟩
 have HSC:=AD (show OV C1 S1 C2 S2 b N Ev=(0,DB,Dm) by
  unfold OV;rw [if_pos hP,hsp];dsimp only;rw [Int.toNat_natCast,Int.toNat_natCast,hD])
 have HD:=AD hD
 have HP:=AD hP
 have HSP:=AD hsp
 obtain ⟨lp,hlp⟩:∃x,ps.length=x:=⟨_,rfl⟩
 have HLP:=AD hlp
 clear hin hD hbl hP hsp hM htb hlp
 go_enter Tryz.func57,Tryz.ntmps57
 repeat' (first
  | (refine AP 26 ?_);refine AG (f:=84) Tryz.call84 AA ?_;refine ⟨_,(Fk _ C1 C2 S1 S2 a1 a2 n1 n2 k1 k2 hC1 hC2 (hs1.ext hS.1) (hs2.ext hS.1) hn1 hn2 ad nb c b (N:Int) (Ev:Int) hb (hv.ext hS.1) HX.out),?_⟩;rintro e w ⟨_,hq⟩;obtain ⟨pcs,ao,am,co,cm,lo,lm,hlo,hlm,hpc,rfl,hS2⟩:=hq HP.out _ _ HSP.out;clear hq;obtain rfl:lp=lo:=(by rw [hlo];exact HLP.out.symm);have HPC:=AD hpc;clear hlo hlm hpc;replace hS:=hS.call hS2;dsimp only [List.cons_append,List.nil_append] at hS;clear hS2;refine AX ?_;go_step|refine X0 ?_|refine X4 ?_|refine X3 ?_|refine PE 4 ?_;clear hS;intro g4 w hS|refine PG ?_|refine AH ?_;go_step|fail)
 all_goals (try exact AQ)
 repeat' (first
  | (refine AP 35 ?_);refine AG (f:=50) Tryz.call50 AA ?_;refine ⟨_,(EM _ N Ev (by omega) (by omega)),?_⟩;rintro e w ⟨a3,c3,m3,hm3,rfl,hS2⟩;obtain rfl:M=m3:=(by rw [←hm3];exact HM.out.symm);clear hm3;replace hS:=hS.call1 hS2;clear hS2;refine AX ?_;go_step|refine X1 ?_|refine UD ?_|refine AH ?_;go_step|fail)
 replace hS:=(hS.nilk 26 64 .i64).nilk 3 1 .i64
 go_loopg [14,15,37] M (fun gk ov bv_ kv w=>∃(k q mb:Nat) (acc bad:List Int) (ao2 ab2:Option Addr) (co2 cb2:Nat),gk+k=M∧kv= .int .i64 k∧ov= .slice ao2 q co2∧bv_= .slice ab2 mb cb2∧q≤400*k∧mb≤k∧Hid (acc.length=q*64)∧Hid (bad.length=mb)∧CW (DB=acc++(La C1 S1 C2 S2 ((BN N Ev).drop k) (ps.drop k) k).1∧Dm=bad++(La C1 S1 C2 S2 ((BN N Ev).drop k) (ps.drop k) k).2)∧St w0 w [own 26 64 ao2 q co2 (acc.map (Value.int .i64)),own 3 1 ab2 mb cb2 (bad.map (Value.int .i64)),prt g4 [.ints C1, .val (.slice a1 n1 k1), .ints C2, .val (.slice a2 n2 k2)],own 35 1 ao lp co (pcs.map Pc.val),star (pcs.map Pc.res),own 94 2 a3 M c3 ((O5 (BN N Ev)).map (Value.int .i64))])
 case atStart=>exact ⟨0,0,0,[],[],none,none,0,0,by omega,rfl,rfl,rfl,by omega,by omega,AD rfl,AD rfl,⟨by rw [List.drop_zero,List.drop_zero,HD.out];exact ⟨rfl,rfl⟩⟩,hS.sub AV⟩
 case round=>
  clear hS
  obtain ⟨k,q,mb,acc,bad,ao2,ab2,co2,cb2,hk,rfl,rfl,rfl,hq4,hmb,HQ,HB,HV,hS⟩:=hrel
  by_cases hlt:k<M
  ·obtain ⟨⟨f,t⟩,hx⟩:∃x,(BN N Ev)[k]? =some x:=⟨_,List.getElem?_eq_getElem (by rw [HM.out];exact hlt)⟩
   have hft:=Fp N Ev _ (List.mem_of_getElem? hx)
   dsimp only at hft
   have hseg:=Ix (BN N Ev) k _ hx
   dsimp only at hseg
   have hd1:(BN N Ev).drop k=(f,t)::(BN N Ev).drop (k+1):=by
    rw [List.drop_eq_getElem_cons (by rw [HM.out];exact hlt)]
    rw [List.getElem?_eq_getElem (by rw [HM.out];exact hlt)] at hx
    rw [Option.some.inj hx]
   obtain ⟨⟨E,B⟩,hR⟩:∃R,mR C1 S1 C2 S2 (ps.drop k) ((t-f:Nat):Int)=R:=⟨_,rfl⟩
   have hstep:CW (La C1 S1 C2 S2 ((BN N Ev).drop k) (ps.drop k) k=((if E=0 then B else C4 (t-f))++(La C1 S1 C2 S2 ((BN N Ev).drop (k+1)) (ps.drop (k+1)) (k+1)).1,(if E=0 then [] else [(k:Int)])++(La C1 S1 C2 S2 ((BN N Ev).drop (k+1)) (ps.drop (k+1)) (k+1)).2)):=⟨by rw [hd1,La];simp only [hR,List.tail_drop]⟩
   obtain ⟨g3,rfl⟩:=Bq (a:=a3) hS AK (by omega)
   clear hx hd1
   by_cases hp:k<lp
   ·obtain ⟨⟨pa,pcc,px⟩,hpx⟩:∃x,pcs[k]? =some x:=⟨_,List.getElem?_eq_getElem (by have:=congrArg List.length HPC.out;rw [List.length_map,HLP.out] at this;omega)⟩
    have hmem:(⟨pa,pcc,px⟩:Pc)∈pcs:=List.mem_of_getElem? hpx
    have hpin:=HIN.out px (by rw [←HPC.out];exact List.mem_map.2 ⟨_,hmem,rfl⟩)
    have hpl:px.length≤nb:=hpin.2
    have HPR:=AD hpin.1
    have hpv:(pcs.map Pc.val)[k]? =some (.slice pa px.length pcc):=by rw [List.getElem?_map,hpx];rfl
    have hpk:ps[k]? =some px:=by rw [←HPC.out,List.getElem?_map,hpx];rfl
    have hd2:ps.drop k=px::ps.drop (k+1):=by
     rw [List.drop_eq_getElem_cons (by rw [HLP.out];exact hp)]
     rw [List.getElem?_eq_getElem (by rw [HLP.out];exact hp)] at hpk
     rw [Option.some.inj hpk]
    rw [hd2,mR] at hR
    have HBL:CW (E=0→B.length=(t-f)*64):=⟨fun h=>by
     obtain ⟨n',e1,e2,e3⟩:=Iw (C1:=C1) (S1:=S1) (C2:=C2) (S2:=S2) (b:=px) (z:=((t-f:Nat):Int)) (by rw [hR];exact h)
     rw [hR] at e3
     have:n'=t-f:=by omega
     rw [←this];exact e3⟩
    have HR:=AD hR
    have HMEM:=AD hmem
    obtain ⟨g1,rfl⟩:=Bq (a:=ao) hS AK (by omega)
    clear hpx hpin hd2 hR hmem hpk
    repeat' (first
     | (refine AP 46 ?_);(refine Ag (.int _ (((t-f:Nat):Int))) (V.as (V.subI rfl rfl (by omega)) (by omega)) (by kernel_rfl) ?_;go_step)|refine X0 ?_|refine X2 ?_|refine UP 40 ?_|refine cy ?_|refine cx ?_|refine ZU ?_|refine UJ ?_|refine eb 17 ?_;clear hS;intro g17 w hS|refine eg ?_;clear hS;intro w hS|refine ED ?_|refine ZM 47 ?_;clear hS;intro g47 w hS|refine AH ?_;go_step|fail)
    all_goals (try exact AQ)
    replace hS:St w0 w [own 26 64 (some ⟨g47,0,none⟩) (t-f) (t-f) ((C4 (t-f)).map (Value.int .i64)),blk g17 [.int .i64 (f:Nat), .int .i64 (t:Nat)],own 26 64 ao2 q co2 (acc.map (Value.int .i64)),own 3 1 ab2 mb cb2 (bad.map (Value.int .i64)),prt g4 [.ints C1, .val (.slice a1 n1 k1), .ints C2, .val (.slice a2 n2 k2)],own 35 1 (some ⟨g1,0,none⟩) lp co (pcs.map Pc.val),star (pcs.map Pc.res),own 94 2 (some ⟨g3,0,none⟩) M c3 ((O5 (BN N Ev)).map (Value.int .i64))]:=hS
    refine AR [7] (fun w=>St w0 w [prt g4 [.ints C1, .val (.slice a1 n1 k1), .ints C2, .val (.slice a2 n2 k2)],own 35 1 (some ⟨g1,0,none⟩) lp co (pcs.map Pc.val)]) AA ?_
    replace hS:=hS.drew
    focus
     refine bu 0 [7,8,9,10,11,12] ?_
     refine Ab 1 ?_
     refine Ab 2 ?_
     refine BX 3 BU (V.indexSl Tryz.underlying88 cB rfl rfl BJ (by omega) (Nat.mul_one _) BK) ?_;go_step
     refine iN 4 [7,8,9,10,11,12] ?_
     refine Ab 5 ?_
     refine BX 6 BU (V.len Tryz.underlying42 rfl) ?_;go_step
     refine At 7 ?_
     refine AY (f:=51) rfl Tryz.call51 (He _ C1 C2 S1 S2 a1 a2 n1 n2 k1 k2 hC1 hC2 (hs1.ext hS.1) (hs2.ext hS.1) hn1 hn2 pa px.length pcc px _ (by omega) (TY hS AK HMEM.out) (TZ hS AK HMEM.out) HPR.out (HML.out.imp fun m h=>hS.1.cell h) _ HR.out) ?_;rintro e w ⟨al,cl,ml,hml,rfl,hS2⟩;have HMM:=AD hml;dsimp only at hS2⊢;replace hS:=hS.call1 hS2;clear hS2 hml;refine ⟨_,rfl,?_⟩
     refine ⟨fun h=>absurd (by decide) h,?_⟩
     refine AL ?_
     go_step
     refine Ab 8 ?_
     refine Y2 9 ?_
     refine Y2 10 ?_
     refine Ab 11 ?_
     refine Ab 12 ?_
     refine AE AA ?_ _
    all_goals
     repeat' (first|(refine AH ?_;go_step)|fail)
     by_cases hE0:E=0
     case neg=>
      have HV2:CW (DB=(acc++C4 (t-f))++(La C1 S1 C2 S2 ((BN N Ev).drop (k+1)) (ps.drop (k+1)) (k+1)).1∧Dm=(bad++[(k:Int)])++(La C1 S1 C2 S2 ((BN N Ev).drop (k+1)) (ps.drop (k+1)) (k+1)).2):=⟨by rw [HV.out.1,HV.out.2,hstep.out,if_neg hE0,if_neg hE0,List.append_assoc,List.append_assoc];exact ⟨rfl,rfl⟩⟩
      have hz0:(C4 (t-f)).length=(t-f)*64:=List.length_replicate
      have HZ:=AD hz0
      clear HV hstep HBL hz0
      repeat' (first
       | refine X1 ?_|refine dQ ?_|refine AH ?_;go_step|fail)
      all_goals (try exact AQ)
      repeat' (first
       | refine X0 ?_|refine X7 ?_|refine ZL 68 ?_;clear hS;intro g68 w hS|refine ZR 69 ?_;clear hS;intro ad69 c69 w hS|refine eh 72 ?_;clear hS;intro ad72 c72 w hS|refine AH ?_;go_step|fail)
      go_roundg (gk-1)
      case measure=>omega
      case rel=>exact ⟨k+1,q+(t-f),mb+1,acc++C4 (t-f),bad++[(k:Int)],_,_,_,_,by omega,by go_num,rfl,rfl,by omega,by omega,AD (by rw [List.length_append,HQ.out,HZ.out];omega),AD (by rw [List.length_append,HB.out];rfl),HV2,hS.sub AV⟩
     have hbl:=HBL.out hE0
     have HV2:CW (DB=(acc++B)++(La C1 S1 C2 S2 ((BN N Ev).drop (k+1)) (ps.drop (k+1)) (k+1)).1∧Dm=bad++(La C1 S1 C2 S2 ((BN N Ev).drop (k+1)) (ps.drop (k+1)) (k+1)).2):=⟨by rw [HV.out.1,HV.out.2,hstep.out,if_pos hE0,if_pos hE0,List.append_assoc,List.nil_append];exact ⟨rfl,rfl⟩⟩
     have hml2:ml=t-f:=by have h9:B.length=ml*64:=HMM.out;omega
     clear HV hstep HBL
     subst hE0
     repeat' (first
      | refine X0 ?_|refine dQ ?_|refine AH ?_;go_step|fail)
     all_goals (try exact AQ)
     repeat' (first
      | refine X0 ?_|refine X7 ?_|refine eh 72 ?_;clear hS;intro ad72 c72 w hS|refine AH ?_;go_step|fail)
     go_roundg (gk-1)
     case measure=>omega
     case rel=>exact ⟨k+1,q+ml,mb,acc++B,bad,_,_,_,_,by omega,by go_num,rfl,rfl,by omega,by omega,AD (by rw [List.length_append,HQ.out,HMM.out];omega),HB,HV2,hS.sub AV⟩
   have hd2:ps.drop k=[]:=List.drop_of_length_le (by rw [HLP.out];omega)
   rw [hd2,mR] at hR
   have hE5:E=5:=(congrArg Prod.fst hR).symm
   have HV2:CW (DB=(acc++C4 (t-f))++(La C1 S1 C2 S2 ((BN N Ev).drop (k+1)) (ps.drop (k+1)) (k+1)).1∧Dm=(bad++[(k:Int)])++(La C1 S1 C2 S2 ((BN N Ev).drop (k+1)) (ps.drop (k+1)) (k+1)).2):=⟨by rw [HV.out.1,HV.out.2,hstep.out,if_neg (by omega),if_neg (by omega),List.append_assoc,List.append_assoc];exact ⟨rfl,rfl⟩⟩
   have hz0:(C4 (t-f)).length=(t-f)*64:=List.length_replicate
   have HZ:=AD hz0
   clear HV hstep hz0 hd2 hR
   repeat' (first
    | (refine AP 46 ?_);(refine Ag (.int _ (((t-f:Nat):Int))) (V.as (V.subI rfl rfl (by omega)) (by omega)) (by kernel_rfl) ?_;go_step)|refine X0 ?_|refine X2 ?_|refine UP 40 ?_|refine cy ?_|refine cx ?_|refine ZU ?_|refine UJ ?_|refine eb 17 ?_;clear hS;intro g17 w hS|refine eg ?_;clear hS;intro w hS|refine ED ?_|refine ZM 47 ?_;clear hS;intro g47 w hS|refine AH ?_;go_step|fail)
   all_goals (try exact AQ)
   replace hS:St w0 w [own 26 64 (some ⟨g47,0,none⟩) (t-f) (t-f) ((C4 (t-f)).map (Value.int .i64)),blk g17 [.int .i64 (f:Nat), .int .i64 (t:Nat)],own 26 64 ao2 q co2 (acc.map (Value.int .i64)),own 3 1 ab2 mb cb2 (bad.map (Value.int .i64)),prt g4 [.ints C1, .val (.slice a1 n1 k1), .ints C2, .val (.slice a2 n2 k2)],own 35 1 ao lp co (pcs.map Pc.val),star (pcs.map Pc.res),own 94 2 (some ⟨g3,0,none⟩) M c3 ((O5 (BN N Ev)).map (Value.int .i64))]:=hS
   repeat' (first
    | refine X1 ?_|refine dQ ?_|refine AH ?_;go_step|fail)
   all_goals (try exact AQ)
   repeat' (first
    | refine X0 ?_|refine X7 ?_|refine ZL 68 ?_;clear hS;intro g68 w hS|refine ZR 69 ?_;clear hS;intro ad69 c69 w hS|refine eh 72 ?_;clear hS;intro ad72 c72 w hS|refine AH ?_;go_step|fail)
   go_roundg (gk-1)
   case measure=>omega
   case rel=>exact ⟨k+1,q+(t-f),mb+1,acc++C4 (t-f),bad++[(k:Int)],_,_,_,_,by omega,by go_num,rfl,rfl,by omega,by omega,AD (by rw [List.length_append,HQ.out,HZ.out];omega),AD (by rw [List.length_append,HB.out];rfl),HV2,hS.sub AV⟩
  obtain rfl:k=M:=by omega
  have hV:CW (DB=acc∧Dm=bad):=⟨by rw [HV.out.1,HV.out.2,List.drop_of_length_le (by rw [HM.out];omega),La];simp⟩
  clear HV
  repeat' (first
   | refine X0 ?_|refine X2 ?_|refine AH ?_;go_step|fail)
  all_goals (try exact AQ)
  repeat' (first
   | refine AH ?_;go_step|fail)
  refine AM (xs:=[_,_,_]) rfl (.cons (AB.tmp rfl) (.cons (AB.tmp rfl) (.cons (AB.tmp rfl) (.nil)))) (by simp) rfl ?_
  exact ⟨ao2,co2,q,ab2,cb2,mb,by rw [HSC.out];dsimp only;rw [hV.out.1];exact HQ.out,by rw [HSC.out];dsimp only;rw [hV.out.2];exact HB.out,by rw [HSC.out];rfl,by rw [HSC.out];dsimp only;rw [hV.out.1,hV.out.2];exact hS.sub AV⟩
theorem Lt{C1 S1 C2 S2 l:List Int}{n:Nat}(h:Ct C1 S1 C2 S2 l n=0):EE C1 S1 C2 S2=0∧Be l n=0∧A5 l n=true∧E6 (Bw C1 S1) (Bw C2 S2) (DT l 0 n):=by
 have ht:EE C1 S1 C2 S2=0:=by
  unfold Ct at h
  by_cases h1:EE C1 S1 C2 S2=0
  ·exact h1
  rw [if_neg h1] at h;exact absurd h h1
 have hb:Be l n=0:=by
  unfold Ct at h
  rw [if_pos ht] at h
  by_cases h1:Be l n=0
  ·exact h1
  rw [if_neg h1] at h;exact absurd h h1
 refine ⟨ht,hb,?_,?_⟩
 ·unfold Be at hb
  split at hb
  ·cases hb
  cases h1:A5 l n
  ·rw [h1] at hb;cases hb
  rfl
 by_cases h1:E6 (Bw C1 S1) (Bw C2 S2) (DT l 0 n)
 ·exact h1
 have:=Nz (Bw C1 S1) (Bw C2 S2) _ [] h1
 unfold Ct at h
 rw [if_pos ht,if_pos hb,this] at h
 cases h
theorem Tk{C1 S1 C2 S2 l:List Int}{n:Nat}(ht:EE C1 S1 C2 S2=0)(hb:Be l n=0)(hw:E6 (Bw C1 S1) (Bw C2 S2) (DT l 0 n)):Ct C1 S1 C2 S2 l n=0:=by
 unfold Ct
 rw [if_pos ht,if_pos hb,IX _ _ _ [] hw]
theorem QV{C1 S1 C2 S2 l:List Int}{n:Nat}(ht:EE C1 S1 C2 S2=0)(hb:Be l n=0)(hw:¬E6 (Bw C1 S1) (Bw C2 S2) (DT l 0 n)):Ct C1 S1 C2 S2 l n=5:=by
 unfold Ct
 rw [if_pos ht,if_pos hb,Nz _ _ _ [] hw]
theorem VV{C1 S1 C2 S2 l:List Int}{n:Nat}(hl:l.length=n*64)(h0:Ct C1 S1 C2 S2 l n=0):FQ C1 S1 C2 S2 (Dj C1 S1 C2 S2 l n) (n:Int)=(0,l):=by
 obtain ⟨ht,hb,hall,hw⟩:=Lt h0
 obtain ⟨t1,t2⟩:=I5 ht
 have hbk:=Wk (Bu t1) (Bu t2) hl hall hw
 have hsb:Dj C1 S1 C2 S2 l n=Dv (GD (bytesOf ((DT l 0 n).flatMap (Bc (Bw C1 S1) (Bw C2 S2))))):=by
  unfold Dj Bv
  rw [if_pos h0,IX _ _ _ [] hw,List.nil_append]
 have hn:=IT hb
 unfold FQ
 rw [if_pos ht,if_pos (by omega),hsb,Z8 (EU _)]
 dsimp only
 rw [Int.toNat_natCast]
 exact hbk
def Mi:List (List Int)→Nat→List Int
 | [],_=>[]
 | p::ps,k=>(if k=0 then [] else [255,((208+(k-1)%8:Nat):Int)])++(p++Mi ps (k+1))
noncomputable def FC(C1 S1 C2 S2 l:List Int)(L:List (Nat×Nat)):List (List Int):=L.map fun x=>Dj C1 S1 C2 S2 (BA l x.1 x.2) (x.2-x.1)
theorem Wt(C1 S1 C2 S2 l:List Int):∀(L:List (Nat×Nat))(k:Nat),(∀x∈L,Ct C1 S1 C2 S2 (BA l x.1 x.2) (x.2-x.1)=0)→Gi C1 S1 C2 S2 l L k=(0,Mi (FC C1 S1 C2 S2 l L) k)
 | [],k,_=>rfl
 | x::L,k,h=>by
   have h1:=h x (by simp)
   have ih:=Wt C1 S1 C2 S2 l L (k+1) (fun y hy=>h y (by simp [hy]))
   rw [Gi,if_neg (by rw [h1];decide),ih]
   rfl
def VG(k n:Nat):List Int:=(List.range n).map fun i=>((208+(k+i)%8:Nat):Int)
theorem XP(k n:Nat):VG k (n+1)=((208+k%8:Nat):Int)::VG (k+1) n:=by
 unfold VG
 rw [List.range_succ_eq_map,List.map_cons,List.map_map]
 congr 1
 refine List.map_congr_left fun i _=>?_
 simp only [Function.comp_apply]
 rw [show k+(i+1)=k+1+i by omega]
theorem Lw:∀(c:List Int)(o:List (List Int))(ms p r:List Int)(m:Int),m≠0→m≠255→D9 (Dv c++255::m::r) o ms p=D9 r (o++[p++Dv c]) (ms++[m]) []
 | [],o,ms,p,r,m,h0,h1=>by
   rw [Kp,List.nil_append,List.append_nil,D9.eq_def]
   simp only [if_true]
   rw [if_neg h1,if_neg h0]
 | x::c,o,ms,p,r,m,h0,h1=>by
   rw [D6]
   by_cases h:x=255
   ·subst h
    rw [if_pos rfl,D9.eq_def]
    simp only [List.cons_append,List.nil_append,if_true]
    rw [if_neg (by decide),Lw c _ _ _ _ _ h0 h1]
    simp
   rw [if_neg h,D9.eq_def]
   simp only [List.cons_append,List.nil_append]
   rw [if_neg h,Lw c _ _ _ _ _ h0 h1]
   simp
theorem YL:∀(ps:List (List Int))(p:List Int)(k:Nat)(o:List (List Int))(ms:List Int),(∃c,p=Dv c)→(∀q∈ps,∃c,q=Dv c)→D9 (p++Mi ps (k+1)) o ms []=some (o++p::ps,ms++VG k ps.length)
 | [],p,k,o,ms,⟨c,hc⟩,_=>by
   rw [Mi,List.append_nil,hc,I0]
   simp [VG]
 | q::ps,p,k,o,ms,⟨c,hc⟩,h=>by
   have e:p++Mi (q::ps) (k+1)=Dv c++255::((208+k%8:Nat):Int)::(q++Mi ps (k+1+1)):=by
    rw [Mi,if_neg (by omega),hc,Nat.add_sub_cancel]
    simp
   rw [e,Lw _ _ _ _ _ _ (by omega) (by omega),YL ps q (k+1) _ _ (h q (by simp)) (fun x hx=>h x (by simp [hx])),List.length_cons,XP,List.nil_append,←hc]
   simp
theorem bJ{ps:List (List Int)}(h:∀q∈ps,∃c,q=Dv c)(h0:ps≠[]):D9 (Mi ps 0) [] [] []=some (ps,VG 0 (ps.length-1)):=by
 cases ps with
 | nil=>exact absurd rfl h0
 | cons p ps=>
   rw [Mi,if_pos rfl,List.nil_append,YL ps p 0 [] [] (h p (by simp)) (fun x hx=>h x (by simp [hx]))]
   simp
theorem aP{k n i:Nat}(h:i<n):AJ (VG k n) i=((208+(k+i)%8:Nat):Int):=by
 unfold VG AJ List.getD
 rw [List.getElem?_map,List.getElem?_range h];rfl
theorem d5(n:Nat):Hw (VG 0 n) (VG 0 n).length=true:=by
 have hl:(VG 0 n).length=n:=by simp [VG]
 unfold Hw
 rw [List.all_eq_true,hl]
 intro k hk
 have hk:=List.mem_range.1 hk
 rw [aP hk,Nat.zero_add]
 simp
theorem eJ(n every:Nat):BN n every≠[]:=by
 unfold BN
 by_cases h:every=0∨n=0
 ·rw [if_pos h];simp
 rw [if_neg h]
 obtain ⟨m,rfl⟩:∃m,n=m+1:=⟨n-1,by omega⟩
 rw [D5,if_pos (by omega)]
 simp
theorem EN{l:List Int}{n f t:Nat}(hl:l.length=n*64)(hft:f≤t)(ht:t≤n):(BA l f t).length=(t-f)*64:=by
 unfold BA
 rw [List.length_take,List.length_drop,hl]
 have h1:(t-f)*64≤n*64-f*64:=by rw [←Nat.sub_mul];exact Nat.mul_le_mul_right 64 (by omega)
 omega
theorem Pa{l:List Int}{n f t:Nat}(hl:l.length=n*64)(hft:f≤t)(ht:t≤n):BA l f t++l.drop (t*64)=l.drop (f*64):=by
 have h1:t*64=f*64+(t-f)*64:=by omega
 unfold BA
 rw [h1,←List.drop_drop,List.take_append_drop]
theorem Lx{l:List Int}{n every:Nat}(hl:l.length=n*64)(he:0<every):∀(f a:Nat),n≤a+f*every→a≤n∨n≤a→(D5 n every f a).flatMap (fun x=>BA l x.1 x.2)=l.drop (a*64)
 | 0,a,h,_=>by
   rw [D5,List.drop_of_length_le (by rw [hl];omega)];rfl
 | f+1,a,h,_=>by
   rw [D5]
   by_cases h0:a<n
   ·rw [if_pos h0,List.flatMap_cons]
    by_cases h1:a+every≤n
    ·rw [Nat.min_eq_left h1,Lx hl he f (a+every) (by rw [Nat.add_mul,Nat.one_mul] at h;omega) (by omega)]
     exact Pa hl (by omega) h1
    rw [Nat.min_eq_right (by omega),Lx hl he f (a+every) (by rw [Nat.add_mul,Nat.one_mul] at h;omega) (by omega),List.drop_of_length_le (i:=(a+every)*64) (by rw [hl];omega)]
    have:=Pa hl (f:=a) (t:=n) (by omega) (Nat.le_refl _)
    rw [List.drop_of_length_le (i:=n*64) (by omega)] at this
    exact this
   rw [if_neg h0,List.drop_of_length_le (by rw [hl];omega)];rfl
theorem Tm{l:List Int}{n:Nat}(every:Nat)(hl:l.length=n*64):(BN n every).flatMap (fun x=>BA l x.1 x.2)=l:=by
 unfold BN
 by_cases h:every=0∨n=0
 ·rw [if_pos h]
  simp [VZ hl]
 rw [if_neg h,Lx hl (by omega) n 0 (by have:=Nat.le_mul_of_pos_right n (show 0<every by omega);omega) (by omega)]
 simp
theorem Xw(C1 S1 C2 S2 l:List Int){n:Nat}(hl:l.length=n*64):∀(L:List (Nat×Nat)),(∀x∈L,x.1≤x.2∧x.2≤n)→(∀x∈L,Ct C1 S1 C2 S2 (BA l x.1 x.2) (x.2-x.1)=0)→Iv C1 S1 C2 S2 L (FC C1 S1 C2 S2 l L)=(0,L.flatMap fun x=>BA l x.1 x.2)
 | [],_,_=>rfl
 | x::L,h1,h2=>by
   have ih:=Xw C1 S1 C2 S2 l hl L (fun y hy=>h1 y (by simp [hy])) (fun y hy=>h2 y (by simp [hy]))
   obtain ⟨a1,a2⟩:=h1 x (by simp)
   have hb:=VV (EN hl a1 a2) (h2 x (by simp))
   have e:FC C1 S1 C2 S2 l (x::L)=Dj C1 S1 C2 S2 (BA l x.1 x.2) (x.2-x.1)::FC C1 S1 C2 S2 l L:=rfl
   rw [e,Iv,List.headD_cons,List.tail_cons,hb,ih]
   rw [if_neg (by simp)]
   rfl
theorem Xg{C1 S1 C2 S2 l:List Int}{L:List (Nat×Nat)}(h2:∀x∈L,Ct C1 S1 C2 S2 (BA l x.1 x.2) (x.2-x.1)=0):∀q∈FC C1 S1 C2 S2 l L,∃c,q=Dv c:=by
 intro q hq
 obtain ⟨x,hx,rfl⟩:=List.mem_map.1 hq
 exact ⟨GD (bytesOf (Bv C1 S1 C2 S2 (BA l x.1 x.2) (x.2-x.1))),by unfold Dj;rw [if_pos (h2 x hx)]⟩
def OX(C1 S1 C2 S2 l:List Int)(n every:Nat):Prop:=∀x∈BN n every,Ct C1 S1 C2 S2 (BA l x.1 x.2) (x.2-x.1)=0
theorem ay{C1 S1 C2 S2 l:List Int}{n every:Nat}(he:every≤100)(ht:EE C1 S1 C2 S2=0)(hb:Be l n=0)(h:OX C1 S1 C2 S2 l n every):F4 C1 S1 C2 S2 l n every=(0,Mi (FC C1 S1 C2 S2 l (BN n every)) 0):=by
 unfold F4
 rw [if_pos (by omega),if_pos ht,if_pos hb,Int.toNat_natCast,Wt _ _ _ _ _ _ _ h,if_pos rfl]
theorem Xf{C1 S1 C2 S2 l:List Int}{n every:Nat}(h:OX C1 S1 C2 S2 l n every):D9 (Mi (FC C1 S1 C2 S2 l (BN n every)) 0) [] [] []=some (FC C1 S1 C2 S2 l (BN n every),VG 0 ((BN n every).length-1)):=by
 have h1:=bJ (Xg h) (by unfold FC;rw [Ne,List.map_eq_nil_iff];exact eJ n every)
 rw [h1]
 unfold FC
 rw [List.length_map]
theorem eB{C1 S1 C2 S2 b:List Int}{n every:Nat}{y:List (List Int)×List Int}(he:every≤100)(hn:n≤400)(ht:EE C1 S1 C2 S2=0)(h:D9 b [] [] []=some y):JG C1 S1 C2 S2 b n every=0:=by
 unfold JG
 rw [if_pos (show Im (n:Int) (every:Int) by unfold Im;omega),if_pos ht]
 unfold eH
 rw [h]
theorem QU{C1 S1 C2 S2 l:List Int}{n every:Nat}(hl:l.length=n*64)(he:every≤100)(hn:n≤400)(ht:EE C1 S1 C2 S2=0)(h:OX C1 S1 C2 S2 l n every):
 IM C1 S1 C2 S2 (Mi (FC C1 S1 C2 S2 l (BN n every)) 0) n every=(0,l):=by
 have hs:=Xf h
 have hw:Ks C1 S1 C2 S2 (Mi (FC C1 S1 C2 S2 l (BN n every)) 0) n every=0:=by
  unfold Ks
  rw [if_pos (eB he hn ht hs),hs]
  dsimp only
  rw [Int.toNat_natCast,Int.toNat_natCast,if_pos (by unfold FC;rw [List.length_map]),d5]
  rfl
 have hd:=Xw C1 S1 C2 S2 l hl (BN n every) (Fp n every) h
 unfold IM
 rw [if_pos hw,hs]
 dsimp only
 rw [Int.toNat_natCast,Int.toNat_natCast,hd,if_pos rfl,Tm every hl]
theorem Rq{F R C1 S1 C2 S2 l:List Int}{n:Nat}(hl:l.length=n*64)(h1:Mk (Cu F) 256 C1 S1)(h2:Mk (Cu R) 256 C2 S2)(hF:∀x∈Q5 l n,x∈F)(hR:∀x∈L4 l n,x∈R):E6 (Bw C1 S1) (Bw C2 S2) (DT l 0 n):=by
 intro x hx
 have hok:=(I6 hl n 0 (by omega)).1 x hx
 obtain ⟨⟨r1,r2⟩,_⟩:=hok
 obtain ⟨k1,k2⟩:=eM l n x hx
 have key:∀(L:List Int),x.1.1∈L→x.1.1∈CF (Cu L) 256:=fun L hL=>by
  rw [Bj]
  refine ⟨r1,by omega,?_⟩
  rw [EG _ (by omega)]
  have h3:(((x.1.1.toNat:Nat)):Int)=x.1.1:=by omega
  rw [h3]
  have:=List.count_pos_iff.2 hL
  omega
 obtain ⟨t,b⟩:=x
 cases b
 ·show (symW (Bw C2 S2) t.1).isSome=true
  exact (Qd h2.ok _).2 ((h2.mem _).2 (key _ (hR _ (k2 rfl))))
 show (symW (Bw C1 S1) t.1).isSome=true
 exact (Qd h1.ok _).2 ((h1.mem _).2 (key _ (hF _ (k1 rfl))))
def VW(l:List Int)(L:List (Nat×Nat)):List Int:=L.flatMap fun x=>Q5 (BA l x.1 x.2) (x.2-x.1)
def YI(l:List Int)(L:List (Nat×Nat)):List Int:=L.flatMap fun x=>L4 (BA l x.1 x.2) (x.2-x.1)
theorem NR{l:List Int}{f t k:Nat}(hk:k<t-f):Bp (BA l f t) 64 k=Bp l 64 (f+k):=by
 unfold BA
 rw [YB hk,GU]
theorem Ej{l:List Int}{n f t:Nat}(h:A5 l n=true)(hft:f≤t)(ht:t≤n):A5 (BA l f t) (t-f)=true:=by
 unfold A5
 rw [List.all_eq_true]
 intro k hk
 have hk:=List.mem_range.1 hk
 rw [NR hk]
 exact De h (by omega)
theorem Gc{l:List Int}{n:Nat}(hn:n≤400)(h:A5 l n=true):Be l n=0:=by
 unfold Be
 rw [if_neg (by omega),if_pos h]
theorem Ji{C1 S1 C2 S2 l:List Int}{n every:Nat}(hl:l.length=n*64)(hn:n≤400)(h:A5 l n=true)(h1:Mk (Cu (VW l (BN n every))) 256 C1 S1)(h2:Mk (Cu (YI l (BN n every))) 256 C2 S2):OX C1 S1 C2 S2 l n every:=by
 intro x hx
 obtain ⟨a1,a2⟩:=Fp n every x hx
 have ht:EE C1 S1 C2 S2=0:=by unfold EE;rw [if_pos h1.ok];exact h2.ok
 exact Tk ht (Gc (by omega) (Ej h a1 a2)) (Rq (EN hl a1 a2) h1 h2 (fun y hy=>List.mem_flatMap.2 ⟨x,hx,hy⟩) (fun y hy=>List.mem_flatMap.2 ⟨x,hx,hy⟩))
def gv(x:List Int):List Int:=(ID 0 ((EQ x).drop 1)).map (·.1)
theorem bV{l:List Int}{n k:Nat}(hl:l.length=n*64)(h:A5 l n=true)(hk:k<n):((Vg l k).drop 1).map (·.1)=gv (Bp l 64 k):=by
 rw [(YS hl h hk).2]
 rfl
theorem Tq{l:List Int}{n:Nat}(hl:l.length=n*64)(h:A5 l n=true):L4 l n=(List.range' 0 n).flatMap fun k=>gv (Bp l 64 k):=by
 unfold L4
 rw [List.range_eq_range',List.flatMap_def,List.flatMap_def]
 congr 1
 refine List.map_congr_left fun k hk=>?_
 exact bV hl h (by have:=List.mem_range'_1.1 hk;omega)
theorem bP{l:List Int}{n f t:Nat}(hl:l.length=n*64)(h:A5 l n=true)(hft:f≤t)(ht:t≤n):L4 (BA l f t) (t-f)=(List.range' f (t-f)).flatMap fun k=>gv (Bp l 64 k):=by
 rw [Tq (EN hl hft ht) (Ej h hft ht),List.flatMap_def,List.flatMap_def]
 congr 1
 have e:List.range' f (t-f)=(List.range' 0 (t-f)).map (f+ ·):=by rw [List.map_add_range'];rfl
 rw [e,List.map_map]
 refine List.map_congr_left fun k hk=>?_
 have hk:=List.mem_range'_1.1 hk
 simp only [Function.comp_apply]
 rw [NR (by omega)]
theorem Ly(g:Nat→List Int){n every:Nat}(he:0<every):∀(f a:Nat),n≤a+f*every→(D5 n every f a).flatMap (fun x=>(List.range' x.1 (x.2-x.1)).flatMap g)=(List.range' a (n-a)).flatMap g
 | 0,a,h=>by rw [D5,show n-a=0 by omega];rfl
 | f+1,a,h=>by
   rw [D5]
   by_cases h0:a<n
   ·rw [if_pos h0,List.flatMap_cons]
    by_cases h1:a+every≤n
    ·rw [Nat.min_eq_left h1,Ly g he f (a+every) (by rw [Nat.add_mul,Nat.one_mul] at h;omega)]
     dsimp only
     rw [←List.flatMap_append,Nat.add_sub_cancel_left,List.range'_append_1,show every+(n-(a+every))=n-a by omega]
    rw [Nat.min_eq_right (by omega),Ly g he f (a+every) (by rw [Nat.add_mul,Nat.one_mul] at h;omega)]
    dsimp only
    rw [show n-(a+every)=0 by omega]
    simp
   rw [if_neg h0,show n-a=0 by omega];rfl
theorem Tp(g:Nat→List Int)(n every:Nat):(BN n every).flatMap (fun x=>(List.range' x.1 (x.2-x.1)).flatMap g)=(List.range' 0 n).flatMap g:=by
 unfold BN
 by_cases h:every=0∨n=0
 ·rw [if_pos h];simp
 rw [if_neg h,Ly g (by omega) n 0 (by have:=Nat.le_mul_of_pos_right n (show 0<every by omega);omega)]
 simp
theorem YJ{l:List Int}{n:Nat}(every:Nat)(hl:l.length=n*64)(h:A5 l n=true):YI l (BN n every)=L4 l n:=by
 rw [Tq hl h,←Tp _ n every]
 unfold YI
 rw [List.flatMap_def,List.flatMap_def]
 congr 1
 refine List.map_congr_left fun x hx=>?_
 obtain ⟨a1,a2⟩:=Fp n every x hx
 exact bP hl h a1 a2
theorem Hx:∀L:List Nat,(L.flatMap fun _:Nat=>[(0:Int)]).length=L.length
 | []=>rfl
 | x::L=>by rw [List.flatMap_cons,List.length_append,Hx L];simp;omega
theorem bH{l:List Int}{n:Nat}(every:Nat):(VW l (BN n every)).length≤n:=by
 have h1:∀(l:List Int)(k:Nat),(Q5 l k).length≤k:=fun l k=>by
  induction k with
  | zero=>simp [Q5]
  | succ k ih=>
    rw [L3,List.length_append,List.length_map,List.length_take]
    omega
 have h2:∀L:List (Nat×Nat),(VW l L).length≤(L.flatMap fun x=>(List.range' x.1 (x.2-x.1)).flatMap fun _:Nat=>[(0:Int)]).length:=fun L=>by
  induction L with
  | nil=>simp [VW]
  | cons x L ih=>
    unfold VW at ih⊢
    rw [List.flatMap_cons,List.flatMap_cons,List.length_append,List.length_append]
    have e:=Hx (List.range' x.1 (x.2-x.1))
    rw [List.length_range'] at e
    have:=h1 (BA l x.1 x.2) (x.2-x.1)
    rw [e]
    omega
 refine Nat.le_trans (h2 _) ?_
 rw [Tp (fun _:Nat=>[(0:Int)]),Hx,List.length_range']
 exact Nat.le_refl _
theorem YX(C:List Int):Bw C []=[]:=by unfold Bw;simp
theorem YR(s:Int):symW [] s=none:=by unfold symW;rfl
theorem Ph{C1 S1 C2 S2 l:List Int}:∀(L:List (Nat×Nat))(k:Nat),(∀x∈L,Ct C1 S1 C2 S2 (BA l x.1 x.2) (x.2-x.1)=0∨Ct C1 S1 C2 S2 (BA l x.1 x.2) (x.2-x.1)=5)→(∃x∈L,Ct C1 S1 C2 S2 (BA l x.1 x.2) (x.2-x.1)=5)→(Gi C1 S1 C2 S2 l L k).1=5
 | [],k,_,⟨x,hx,_⟩=>by cases hx
 | x::L,k,h,⟨y,hy,h5⟩=>by
   rw [Gi]
   rcases h x (by simp) with h0|h0
   ·rw [if_neg (by rw [h0];decide)]
    dsimp only
    refine Ph L (k+1) (fun z hz=>h z (by simp [hz])) ?_
    rcases List.mem_cons.1 hy with rfl|hy
    ·rw [h0] at h5;cases h5
    exact ⟨y,hy,h5⟩
   rw [if_pos (by rw [h0];decide),h0]
theorem VU{C1 S1 C2 l:List Int}{n every:Nat}(hl:l.length=n*64)(hn:n≤400)(he:every≤100)(h:A5 l n=true)(ht1:A4 C1 S1=0)(ht2:A4 C2 []=0)(hR:L4 l n≠[]):F4 C1 S1 C2 [] l n every=(5,[]):=by
 have ht:EE C1 S1 C2 []=0:=by unfold EE;rw [if_pos ht1];exact ht2
 have hb:=Gc hn h
 have h5:(Gi C1 S1 C2 [] l (BN n every) 0).1=5:=by
  refine Ph _ _ (fun x hx=>?_) ?_
  ·obtain ⟨a1,a2⟩:=Fp n every x hx
   have hb':=Gc (show x.2-x.1≤400 by omega) (Ej h a1 a2)
   by_cases hw:E6 (Bw C1 S1) (Bw C2 []) (DT (BA l x.1 x.2) 0 (x.2-x.1))
   ·exact .inl (Tk ht hb' hw)
   exact .inr (QV ht hb' hw)
  rw [←YJ every hl h] at hR
  obtain ⟨y,hy⟩:∃y,y∈YI l (BN n every):=List.exists_mem_of_ne_nil _ hR
  obtain ⟨x,hx,hy⟩:=List.mem_flatMap.1 hy
  refine ⟨x,hx,?_⟩
  obtain ⟨a1,a2⟩:=Fp n every x hx
  have hb':=Gc (show x.2-x.1≤400 by omega) (Ej h a1 a2)
  refine QV ht hb' fun hw=>?_
  have hc:=Kc (BA l x.1 x.2) (x.2-x.1)
  rw [Fg] at hc
  simp only [List.nil_append,Prod.mk.injEq,true_and] at hc
  rw [←hc.2] at hy
  obtain ⟨z,hz,rfl⟩:=List.mem_map.1 hy
  obtain ⟨hz1,hz2⟩:=List.mem_filter.1 hz
  have:=hw z hz1
  rw [YX] at this
  have hz3:z.2=false:=by simpa using hz2
  rw [hz3,if_neg (by decide),YR] at this
  cases this
 unfold F4
 rw [if_pos (by omega),if_pos ht,if_pos hb,Int.toNat_natCast,if_neg (by rw [h5];decide),h5]
theorem WT{l:List Int}{n:Nat}(every:Nat)(hn:n≤400):bE (Cu (VW l (BN n every)))=0:=M0 (Nat.le_trans (bH every) (by omega))
theorem U6(l:List Int):(Value.agg (iv l))=Value.agg (AF [.ints l]).toArray:=by simp [AF,Ae.cells,iv]
theorem Lm(a b:List Ae):AF (a++b)=AF a++AF b:=by
 induction a with
 | nil=>rfl
 | cons x a ih=>rw [List.cons_append,AF,AF,ih,List.append_assoc]
inductive JK(ss:List Ae):List Ae→Nat→List Ae→Prop
 | head {B D:List Ae} (hb:(AF B).length=(AF ss).length):JK ss (B++D) 0 (ss++D)
 | skipI {l:List Int} {ps ps':List Ae} {off n o2:Nat} (hn:Ac l n) (h:n≤off) (ho:off-n=o2) (t:JK ss ps o2 ps'):JK ss (.ints l::ps) off (.ints l::ps')
 | skipV {v:Value} {ps ps':List Ae} {off:Nat} (t:JK ss ps off ps'):JK ss (.val v::ps) (off+1) (.val v::ps')
theorem JK.eq{ss ps ps':List Ae}{off:Nat}(h:JK ss ps off ps'):∃A B D:List Value,AF ps=A++(B++D)∧AF ps'=A++(AF ss++D)∧A.length=off∧B.length=(AF ss).length:=by
 induction h with
 | @head B D hb=>exact ⟨[],AF B,AF D,by rw [Lm];rfl,by rw [Lm];rfl,rfl,hb⟩
 | @skipI l ps ps' off n o2 hn h ho t ih=>
   obtain ⟨A,B,D,e1,e2,e3,e4⟩:=ih
   have hl:=hn.out
   exact ⟨l.map (Value.int .i64)++A,B,D,by rw [AF,e1,List.append_assoc];rfl,by rw [AF,e2,List.append_assoc];rfl,by simp;omega,e4⟩
 | @skipV v ps ps' off t ih=>
   obtain ⟨A,B,D,e1,e2,e3,e4⟩:=ih
   exact ⟨v::A,B,D,by rw [AF,e1];rfl,by rw [AF,e2];rfl,by simp [e3],e4⟩
theorem NN(g:Nat):∀(vs B A D:List Value)(w:World),MT w g (A++(B++D)).toArray→B.length=vs.length→MT (w.setCells g A.length vs) g (A++(vs++D)).toArray∧ES [g] w (w.setCells g A.length vs)
 | [],[],A,D,w,h,_=>⟨h,⟨rfl,rfl,rfl,Nat.le_refl _,fun _ _ _=>rfl⟩⟩
 | [],_::_,A,D,w,h,hl=>by simp at hl
 | _::_,[],A,D,w,h,hl=>by simp at hl
 | v::vs,b::B,A,D,w,h,hl=>by
   have h1:=h.set A.length v
   have e1:((A++(b::B++D)).toArray).setIfInBounds A.length v=((A++[v])++(B++D)).toArray:=by
    simp
   rw [e1] at h1
   obtain ⟨h2,h3⟩:=NN g vs B (A++[v]) D _ h1 (by simpa using hl)
   have e2:w.setCells g A.length (v::vs)=(w.setCell ⟨g,A.length,none⟩ v).setCells g (A++[v]).length vs:=by
    rw [World.setCells,List.length_append];rfl
   rw [e2]
   refine ⟨by simpa using h2,?_⟩
   have h4:=ES.setCell w ⟨g,A.length,none⟩ v
   exact ⟨h3.os.trans h4.os,h3.tape.trans h4.tape,h3.output.trans h4.output,Nat.le_trans h4.size h3.size,fun k hk hm=>(h3.block k (Nat.lt_of_lt_of_le hk h4.size) hm).trans (h4.block k hk hm)⟩
section
variable{P:Program}{W w:World}{rs rs':List Aq}{Q:Exit→Act→World→Prop}{K:Act→World→Prop}{o:Oper}{a:Act}
theorem Eo(hS:St W w rs)(ty:TypeId)(x y:Operand)(ho:o.op= .store ty x y)(g off:Nat)(hx:a.eval x= .pointer (some ⟨g,off,none⟩))(m:Nat)(h1:E7 P ty m)(ps ps' ss:List Ae)(hp:AU (prt g ps) rs rs')
 (hy:a.eval y= .agg (AF ss).toArray) (hr:JK ss ps off ps') (hm:(AF ss).length=m) (hv:ss.all ON=true) (hd:o.dst=none) (h:∀w',St W w' (prt g ps'::rs')→K a w'):o.wp P a w K Q:=by
 obtain ⟨A,B,D,e1,e2,e3,e4⟩:=hr.eq
 subst e3
 have hb:=(hS.blk hp).1
 rw [e1] at hb
 obtain ⟨h2,h3⟩:=NN g (AF ss) B A D w hb e4
 refine wp_store_mid ty x y ho g A.length (AF ss).toArray hx hy ?_ (by rw [h1.2];simp [hm]) (by simpa using Gl hv) ?_
 ·intro j hj
  rw [List.size_toArray] at hj
  refine ⟨?_,hb.free _⟩
  rw [hb.cell]
  have:A.length+j<(A++(B++D)).toArray.size:=by simp;omega
  rw [Array.getElem?_eq_getElem this];rfl
 rw [show a.put o.dst undef=a by rw [hd];rfl]
 refine h _ ?_
 refine St.change (rs1:=[prt g ps']) (hS.pull hp) fun f1 k1 _ _=>?_
 obtain ⟨rfl,_⟩:=k1
 refine ⟨[g],⟨[g],[],rfl,⟨rfl,?_⟩,rfl⟩,by simp,fun b hb=> .inl hb,h3⟩
 rw [e2];exact h2
end
theorem Xp{C1 C C2:List Int}{v1 v v2:Value}(hC1:Ac C1 16)(hC:Ac C 16):JK [.ints C, .val v] [.ints C1, .val v1, .ints C2, .val v2] 0 [.ints C, .val v, .ints C2, .val v2]:=
 .head (B:=[.ints C1, .val v1]) (D:=[.ints C2, .val v2]) (by simp [AF,Ae.cells,hC1.out,hC.out])
theorem Xq{C1 C C2:List Int}{v1 v v2:Value}(hC1:Ac C1 16)(hC2:Ac C2 16)(hC:Ac C 16):JK [.ints C, .val v] [.ints C1, .val v1, .ints C2, .val v2] 17 [.ints C1, .val v1, .ints C, .val v]:=
 .skipI hC1 (by omega) rfl (.skipV (.head (B:=[.ints C2, .val v2]) (D:=[]) (by simp [AF,Ae.cells,hC2.out,hC.out])))
theorem YH{l:List Int}{L:List (Nat×Nat)}{k:Nat}{x:Nat×Nat}(hx:L[k]? =some x):VW l (L.take (k+1))=VW l (L.take k)++Q5 (BA l x.1 x.2) (x.2-x.1):=by
 obtain ⟨hk,e⟩:=List.getElem?_eq_some_iff.1 hx
 rw [List.take_succ_eq_append_getElem hk,e]
 unfold VW
 rw [List.flatMap_append]
 simp
theorem YK{l:List Int}{L:List (Nat×Nat)}{k:Nat}{x:Nat×Nat}(hx:L[k]? =some x):YI l (L.take (k+1))=YI l (L.take k)++L4 (BA l x.1 x.2) (x.2-x.1):=by
 obtain ⟨hk,e⟩:=List.getElem?_eq_some_iff.1 hx
 rw [List.take_succ_eq_append_getElem hk,e]
 unfold YI
 rw [List.flatMap_append]
 simp
theorem P7(w0:World)(c:List Int)(ad:Option Addr)(n cap:Nat)(hv:Sl w0 1 (.slice ad n cap) n (c.map (Value.int .i64)))(hn:n≤9223372036854775807):
 Calls Tryz.prog 72 #[.slice ad n cap] w0 fun e w=>∃(C S:List Int) (ao:Option Addr) (m co:Nat),Ac C 16∧S.length=m∧m≤256∧A4 C S=0∧(bE c=0→Mk c n C S)∧(bE c≠0→S=[])∧e= .returned (.tuple #[tv C (.slice ao m co), .int .i64 (bE c)])∧St w0 w [own 3 1 ao m co (S.map (Value.int .i64))]:=by
 by_cases hb:bE c=0
 ·refine (VB w0 c ad n cap hv hn hb).mono ?_
  rintro e w ⟨C,S,ao,co,hM,rfl,hS⟩
  exact ⟨C,S,ao,S.length,co,hM.len,rfl,(B8 hM.ok).2.2.1,hM.ok,fun _=>hM,fun h=>absurd hb h,by rw [hb],hS⟩
 refine (XK w0 c ad n cap hv hn hb).mono ?_
 rintro e w ⟨rfl,hE⟩
 exact ⟨_,[],none,0,0,Yh,rfl,by omega,Yi,fun h=>absurd h hb,fun _=>rfl,rfl,(St.of_ext hE).nil _ _⟩
def UC(w0:World)(F R:List Int)(e:Ending)(w:World):Prop:=
 ∃(C1 S1 C2 S2:List Int) (a1 a2:Option Addr) (m1 k1 m2 k2:Nat),Ac C1 16∧Ac C2 16∧S1.length=m1∧S2.length=m2∧m1≤256∧m2≤256∧A4 C1 S1=0∧A4 C2 S2=0∧(bE (Cu F)=0→Mk (Cu F) 256 C1 S1)∧(bE (Cu R)=0→Mk (Cu R) 256 C2 S2)∧(bE (Cu R)≠0→S2=[])∧
  e= .returned (.agg (AF [.ints C1, .val (.slice a1 m1 k1), .ints C2, .val (.slice a2 m2 k2)]).toArray)∧St w0 w [own 3 1 a1 m1 k1 (S1.map (Value.int .i64)),own 3 1 a2 m2 k2 (S2.map (Value.int .i64))]
theorem Fq(w0:World)(ad:Option Addr)(n c:Nat)(l:List Int)(every:Nat)(hn:n≤400)(he:every≤100)(hb:A5 l n=true)(hv:Sl w0 64 (.slice ad n c) n (l.map (Value.int .i64))):
 Calls Tryz.prog 41 #[.slice ad n c, .int .i64 every] w0 (UC w0 (VW l (BN n every)) (YI l (BN n every))):=by
 have hl:l.length=n*64:=by have:=hv.1;simpa using this
 have HL:=AD hl
 have HAB:=AD hb
 have hnc:n≤c:=by
  obtain ⟨_,a',c',e,h1,_⟩:=hv
  cases e;exact h1
 clear hl hb
 have hpsl:=Qa n every
 obtain ⟨P,hP⟩:∃P,BN n every=P:=⟨_,rfl⟩
 have hin:=To n every
 rw [hP] at hpsl hin⊢
 have HIN:=AD hin
 have HPE:=AD hP
 obtain ⟨m8,hm8⟩:∃m,P.length=m:=⟨_,rfl⟩
 rw [hm8] at hpsl
 have HM8:=AD hm8
 clear hP hin hm8
 have hS:=St.start w0
 go_enter Tryz.func41,Tryz.ntmps41
 repeat' (first
  | (refine AP 4 ?_);(refine Ad ?_;apply Gw (o:=⟨some 4,_,_,_,_,_⟩) hS 34 rfl _ iC;clear hS;intro g4 w hS;refine AC ?_;go_step)|refine AH ?_;go_step|fail)
 replace hS:St w0 _ [prt g4 [.ints (List.replicate 16 0), .val (.slice none 0 0), .ints (List.replicate 16 0), .val (.slice none 0 0)]]:=hS
 apply Yb (rs:=fun g13 g14=>[own 3 1 (some ⟨g13,0,none⟩) 256 256 ((Cu []).map (Value.int .i64)),own 3 1 (some ⟨g14,0,none⟩) 256 256 ((Cu []).map (Value.int .i64)),prt g4 [.ints (List.replicate 16 0), .val (.slice none 0 0), .ints (List.replicate 16 0), .val (.slice none 0 0)]])
 ·refine AR [] (fun _=>True) AA ?_
  replace hS:=hS.drew
  focus
   refine BL [0,1] AA (by simp) (.cons Ar AA ?_ (.cons Ar AA ?_ (.nil)))
   rotate_left 1
   focus
    refine Y1 ?_;clear hS;intro g14 w hS
    refine At 0 ?_
    refine Y1 ?_;clear hS;intro g13 w hS
    refine Ab 2 ?_
    refine Ab 3 ?_
    refine AE AA ?_ _
    exact ⟨rfl,g13,g14,rfl,by rw [Ay];exact hS.sub AV⟩
   rotate_right 1
   focus
    refine Y1 ?_;clear hS;intro g13 w hS
    refine Ab 2 ?_
    refine At 1 ?_
    refine Y1 ?_;clear hS;intro g14 w hS
    refine Ab 3 ?_
    refine AE AA ?_ _
    exact ⟨rfl,g13,g14,rfl,by rw [Ay];exact hS.sub AV⟩
 clear hS
 intro g13 g14 w hS
 ·repeat' (first
   | (refine Al 50 ?_);refine Am AA Tryz.call50 (EM _ n every (by omega) (by omega)) ?_;rintro e w ⟨a8,c8,m9,hm9,rfl,hS2⟩;rw [HPE.out] at hm9 hS2;obtain rfl:m8=m9:=(by rw [←hm9];exact HM8.out.symm);replace hS:=hS.call1 hS2;clear hS2 hm9;refine AX ?_;go_step|refine X1 ?_|refine Vw ?_|refine UD ?_|refine AH ?_;go_step|fail)
  go_loopg [20] m8 (fun gk kv w=>∃(k:Nat) (A B:List Int),gk+k=m8∧kv= .int .i64 k∧A.length≤k*25600∧B.length≤k*25600∧Hid (A=VW l (P.take k))∧Hid (B=YI l (P.take k))∧St w0 w [own 94 2 a8 m8 c8 ((O5 P).map (Value.int .i64)),own 3 1 (some ⟨g13,0,none⟩) 256 256 ((Cu A).map (Value.int .i64)),own 3 1 (some ⟨g14,0,none⟩) 256 256 ((Cu B).map (Value.int .i64)),prt g4 [.ints (List.replicate 16 0), .val (.slice none 0 0), .ints (List.replicate 16 0), .val (.slice none 0 0)]])
  case atStart=>exact ⟨0,[],[],by omega,rfl,by simp,by simp,AD rfl,AD rfl,hS.sub AV⟩
  case round=>
   clear hS
   obtain ⟨k,A,B,hk,rfl,hAl,hBl,HF,HR,hS⟩:=hrel
   by_cases hlt:k<m8
   ·obtain ⟨⟨f,t⟩,hx⟩:∃x,P[k]? =some x:=⟨_,List.getElem?_eq_getElem (by rw [HM8.out];exact hlt)⟩
    have hft:=HIN.out _ (List.mem_of_getElem? hx)
    dsimp only at hft
    have hseg:=Ix P k _ hx
    dsimp only at hseg
    have hsl:(BA l f t).length=(t-f)*64:=EN HL.out hft.1 hft.2
    have hbk:=Gc (show t-f≤400 by omega) (Ej HAB.out hft.1 hft.2)
    have hsy:=YQ hsl (t-f) (Nat.le_refl _)
    have hF2:=YH (l:=l) hx
    have hR2:=YK (l:=l) hx
    dsimp only at hF2 hR2
    rw [←HF.out] at hF2
    rw [←HR.out] at hR2
    have hcc:=hv.cutAt f t hft.1 hft.2
    rw [show ((l.map (Value.int .i64)).drop (f*64)).take ((t-f)*64)=(BA l f t).map (Value.int .i64) by unfold BA;simp] at hcc
    have HBK:=AD hbk
    have HF2:=AD hF2
    have HR2:=AD hR2
    clear HF HR hx hsl hbk hF2 hR2
    obtain ⟨b8,rfl⟩:=Bq (a:=a8) hS AK (by omega)
    repeat' (first
     | (refine AP 31 ?_);refine AG (f:=71) Tryz.call71 AA ?_;refine ⟨_,(FE _ (cutAt ad c f 64) (t-f) (c-f) (BA l f t) (by omega) (hcc.ext hS.1)),?_⟩;rintro e w ⟨hq,_⟩;obtain ⟨g1,g2,rfl,hS2⟩:=hq HBK.out;clear hq;replace hS:=Dy hS hS2;clear hS2;refine AX ?_;go_step|refine X0 ?_|refine X2 ?_|refine UP 22 ?_|refine cx ?_|refine cy ?_|(with_reducible refine Ak _ (.slice 42 _ _ _ _) ?_);(refine Ap AA (V.slice Tryz.underlying42 Id rfl (by (first|exact Lo.none|exact Lo.some rfl BJ)) (by (first|exact Up.none|exact Up.some rfl BJ)) (by omega) (by omega)) ?_;go_step)|refine X4 ?_|refine UQ ?_|refine UJ ?_|refine eb 8 ?_;clear hS;intro g8 w hS|refine eg ?_;clear hS;intro w hS|refine ED ?_|refine AH ?_;go_step|fail)
    all_goals (try exact AQ)
    obtain ⟨gk1,hgk1⟩:∃x,x=gk:=⟨_,rfl⟩
    subst hgk1
    obtain ⟨X,hX⟩:∃X,Q5 (BA l f t) (t-f)=X:=⟨_,rfl⟩
    obtain ⟨Y,hY⟩:∃X,L4 (BA l f t) (t-f)=X:=⟨_,rfl⟩
    rw [hX,hY] at hS hsy
    rw [hX] at HF2
    rw [hY] at HR2
    clear hX hY hcc
    go_loopg [37] 256 (fun gk kv w=>∃(i:Nat) (l1 l2:List Int),gk+i=256∧kv= .int .i64 i∧Hid (l1.length=256)∧Hid (l2.length=256)∧Hid (∀j,j<256→AJ l1 j=if j<i then AJ (Cu (A++X)) j else AJ (Cu A) j)∧Hid (∀j,j<256→AJ l2 j=if j<i then AJ (Cu (B++Y)) j else AJ (Cu B) j)∧St w0 w [own 94 2 (some ⟨b8,0,none⟩) m8 c8 ((O5 P).map (Value.int .i64)),own 3 1 (some ⟨g13,0,none⟩) 256 256 (l1.map (Value.int .i64)),own 3 1 (some ⟨g14,0,none⟩) 256 256 (l2.map (Value.int .i64)),own 3 1 (some ⟨g1,0,none⟩) 256 256 ((Cu X).map (Value.int .i64)),own 3 1 (some ⟨g2,0,none⟩) 256 256 ((Cu Y).map (Value.int .i64)),prt g4 [.ints (List.replicate 16 0), .val (.slice none 0 0), .ints (List.replicate 16 0), .val (.slice none 0 0)]])
    case atStart=>exact ⟨0,Cu A,Cu B,rfl,rfl,AD (Dp _),AD (Dp _),AD (fun j hj=>by rw [if_neg (by omega)]),AD (fun j hj=>by rw [if_neg (by omega)]),hS.sub AV⟩
    case round=>
     clear hS
     obtain ⟨i,l1,l2,hi,rfl,HL1,HL2,HV1,HV2,hS⟩:=hrel
     by_cases hlt2:i<256
     ·have e1:=HV1.out i hlt2
      have e2:=HV2.out i hlt2
      rw [if_neg (by omega)] at e1 e2
      have a1:=Ho A hlt2
      have a2:=Ho B hlt2
      have a3:=Ho X hlt2
      have a4:=Ho Y hlt2
      rw [←e1] at a1
      rw [←e2] at a2
      have HA1:=AD (show AJ l1 i+AJ (Cu X) i=AJ (Cu (A++X)) i by rw [e1];exact Sq hlt2)
      have HA2:=AD (show AJ l2 i+AJ (Cu Y) i=AJ (Cu (B++Y)) i by rw [e2];exact Sq hlt2)
      clear e1 e2
      repeat' (first
       | refine X0 ?_|refine X2 ?_|refine AH ?_;go_step|fail)
      all_goals (try exact AQ)
      refine AR [10] (fun w=>St w0 w [own 3 1 (some ⟨g13,0,none⟩) 256 256 (l1.map (Value.int .i64)),own 3 1 (some ⟨g1,0,none⟩) 256 256 ((Cu X).map (Value.int .i64))]) AA ?_
      replace hS:=hS.drew
      focus
       refine Ab 0 ?_
       refine Ab 1 ?_
       refine Y7 2 ?_
       refine gN 3 [8,9,10] ?_
       refine Ab 4 ?_
       refine Ab 5 ?_
       refine Y7 6 ?_
       refine gN 7 [8,9,10] ?_
       refine Yt 8 ?_
       refine Y7 9 ?_
       refine At 10 ?_
       refine eo ?_;clear hS;intro w hS
       refine AE AA ?_ _
      repeat' (first|(refine AH ?_;go_step)|fail)
      refine AR [10] (fun w=>St w0 w [own 3 1 (some ⟨g14,0,none⟩) 256 256 (l2.map (Value.int .i64)),own 3 1 (some ⟨g2,0,none⟩) 256 256 ((Cu Y).map (Value.int .i64))]) AA ?_
      replace hS:=hS.drew
      focus
       refine Ab 0 ?_
       refine Ab 1 ?_
       refine Y7 2 ?_
       refine gN 3 [8,9,10] ?_
       refine Ab 4 ?_
       refine Ab 5 ?_
       refine Y7 6 ?_
       refine gN 7 [8,9,10] ?_
       refine Yt 8 ?_
       refine Y7 9 ?_
       refine At 10 ?_
       refine eo ?_;clear hS;intro w hS
       refine AE AA ?_ _
      repeat' (first
       | refine X1 ?_|refine X7 ?_|refine AH ?_;go_step|fail)
      rw [HA1.out,HA2.out] at hS
      have nset:∀(l:List Int)(D E:List Int),l.length=256→(∀j,j<256→AJ l j=if j<i then AJ (Cu (D++E)) j else AJ (Cu D) j)→∀j,j<256→AJ (l.set i (AJ (Cu (D++E)) i)) j=if j<i+1 then AJ (Cu (D++E)) j else AJ (Cu D) j:=fun l D E h1 h2 j hj=>by
       rw [CS _ _ _ _ (by rw [h1];exact hlt2)]
       by_cases h:i=j
       ·subst h;rw [if_pos rfl,if_pos (by omega)]
       rw [if_neg h,h2 j hj]
       by_cases h3:j<i
       ·rw [if_pos h3,if_pos (by omega)]
       rw [if_neg h3,if_neg (by omega)]
      go_roundg (gk-1)
      case measure=>omega
      case rel=>exact ⟨i+1,l1.set i (AJ (Cu (A++X)) i),l2.set i (AJ (Cu (B++Y)) i),by omega,by go_num,AD (by rw [List.length_set];exact HL1.out),AD (by rw [List.length_set];exact HL2.out),AD (nset _ _ _ HL1.out HV1.out),AD (nset _ _ _ HL2.out HV2.out),hS.sub AV⟩
     obtain rfl:i=256:=by omega
     have q1:l1=Cu (A++X):=Kb HL1.out (Dp _) fun j hj=>by rw [HV1.out j hj,if_pos hj]
     have q2:l2=Cu (B++Y):=Kb HL2.out (Dp _) fun j hj=>by rw [HV2.out j hj,if_pos hj]
     rw [q1,q2] at hS
     repeat' (first
      | refine X2 ?_|refine AH ?_;go_step|fail)
     repeat' (first
      | refine X1 ?_|refine X7 ?_|refine AH ?_;go_step|fail)
     go_roundg (gk1-1)
     case measure=>omega
     case rel=>exact ⟨k+1,A++X,B++Y,by omega,by go_num,by rw [List.length_append];omega,by rw [List.length_append];omega,AD HF2.out.symm,AD HR2.out.symm,hS.sub AV⟩
   obtain rfl:k=m8:=by omega
   have hf:=HF.out
   have hr:=HR.out
   rw [List.take_of_length_le (by rw [HM8.out];exact Nat.le_refl _)] at hf hr
   subst hf
   subst hr
   obtain ⟨F,hF⟩:∃F,VW l P=F:=⟨_,rfl⟩
   obtain ⟨R,hR⟩:∃F,YI l P=F:=⟨_,rfl⟩
   rw [hF,hR] at hS⊢
   obtain ⟨E1,hE1⟩:∃E,bE (Cu F)=E:=⟨_,rfl⟩
   obtain ⟨E2,hE2⟩:∃E,bE (Cu R)=E:=⟨_,rfl⟩
   have HE1:=AD hE1
   have HE2:=AD hE2
   have HFE:=AD hF
   have HRE:=AD hR
   clear HF HR hF hR hE1 hE2 hAl hBl
   have hZ:Ac (List.replicate 16 (0:Int)) 16:=Ac.rep
   repeat' (first
    | refine X1 ?_|refine X2 ?_|refine AH ?_;go_step|fail)
   repeat' (first
    | (refine AP 64 ?_);refine AG (f:=72) Tryz.call72 AA ?_;refine ⟨_,(P7 _ (Cu F) (some ⟨g13,0,none⟩) 256 256 (hS.sl AK) (by decide)),?_⟩;rintro e w ⟨C1,S1,a1,m1,k1,hC1,hm1,hb1,ht1,hM1,hN1,rfl,hS2⟩;rw [HE1.out];replace hS:=hS.call1 hS2;clear hS2;have HM1:=AD hM1;have HT1:=AD ht1;clear hM1 ht1 hN1;refine AX ?_;go_step|(refine AP 70 ?_);refine AG (f:=72) Tryz.call72 AA ?_;refine ⟨_,(P7 _ (Cu R) (some ⟨g14,0,none⟩) 256 256 (hS.sl AK) (by decide)),?_⟩;rintro e w ⟨C2,S2,a2,m2,k2,hC2,hm2,hb2,ht2,hM2,hN2,rfl,hS2⟩;rw [HE2.out];replace hS:=hS.call1 hS2;clear hS2;have HM2:=AD hM2;have HT2:=AD ht2;have HN2:=AD hN2;clear hM2 ht2 hN2;refine AX ?_;go_step|(with_reducible refine Ak _ (.store 32 (.tmp 67) _) ?_);refine Ad ?_;refine Eo hS 32 _ _ rfl g4 0 rfl 17 (AO rfl) _ _ [.ints C1, .val _] AK rfl (Xp hZ hC1) (Dw C1 _ hC1) rfl rfl ?_;clear hS;intro w hS|(with_reducible refine Ak _ (.store 32 (.tmp 73) _) ?_);refine Ad ?_;refine Eo hS 32 _ _ rfl g4 17 rfl 17 (AO rfl) _ _ [.ints C2, .val _] AK rfl (Xq hC1 hZ hC2) (Dw C2 _ hC2) rfl rfl ?_;clear hS;intro w hS|refine X1 ?_|refine X4 ?_|refine Zp ?_|refine Zq ?_|refine AH ?_;go_step|fail)
   repeat' (first
    | refine PG ?_|(with_reducible refine Ak _ (.store 34 _ _) ?_);(refine Ad ?_;apply Fs hS 34 _ _ rfl _ rfl 34 (AO rfl) _ _;(case hp=>exact AK);(case hy=>rfl);(case hn=>(repeat (first|exact Bi.nil|(apply Bi.ints;(case hn=>exact DW);(case h=>omega);(case hm=>rfl))|apply Bi.val)));(case hn'=>(repeat (first|exact Bi.nil|(apply Bi.ints;(case hn=>exact DW);(case h=>omega);(case hm=>rfl))|apply Bi.val)));(case hv=>rfl);(case hd=>exact rfl);clear hS;intro w hS)|refine AH ?_;go_step|fail)
   refine A9 rfl (AB.prt hS rfl (AO (n:=34) rfl) AK (by (repeat (first|exact Bi.nil|(apply Bi.ints;(case hn=>exact DW);(case h=>omega);(case hm=>rfl))|apply Bi.val)))) rfl ?_
   rw [HFE.out,HRE.out]
   exact ⟨C1,S1,C2,S2,a1,a2,m1,k1,m2,k2,hC1,hC2,hm1,hm2,hb1,hb2,HT1.out,HT2.out,HM1.out,HM2.out,HN2.out,rfl,hS.sub AV⟩
theorem Wm(q b:List Int)(hq:q.length=64):Dx (e7 q b)=true:=by
 have hb:(gW b).length=64:=Fu _ _
 refine (BG _ _ _).2 fun i hi=>?_
 unfold e7 Dz
 split
 ·rw [Qw _ _ _ hb hq i (by rw [Nx q b hq] at hi;exact hi)]
  unfold dn
  omega
 unfold CZ;rw [EL];omega
theorem RG{a b:List Int}{n m:Nat}(ha:a.length=n*64)(h1:A5 a n=true)(h2:A5 b m=true):A5 (a++b) (n+m)=true:=by
 unfold A5
 rw [List.all_eq_true]
 intro k hk
 have hk:=List.mem_range.1 hk
 by_cases hkn:k<n
 ·rw [QW ha hkn];exact De h1 hkn
 have e:Bp (a++b) 64 k=Bp b 64 (k-n):=by
  unfold Bp
  rw [List.drop_append,List.drop_of_length_le (by rw [ha];omega),List.nil_append,ha,←Nat.sub_mul]
 rw [e];exact De h2 (by omega)
theorem RT(q l:List Int)(hq:q.length=64)(n:Nat):A5 (RS q l n) n=true:=by
 unfold A5
 rw [List.all_eq_true]
 intro k hk
 rw [Sw q l hq n k (List.mem_range.1 hk)]
 exact Wm q _ hq
theorem Ln(m h:Int)(q:List Int)(hq:q.length=64):∀L:List (List Int),A5 (OP m h q L) (L.length*Ai m h)=true
 | []=>by unfold A5;simp
 | l::L=>by
   rw [OP,List.length_cons,Nat.add_mul,Nat.one_mul,Nat.add_comm]
   exact RG (IW q _ hq _) (RT q _ hq _) (Ln m h q hq L)
theorem LR(m h:Int)(q:List Int)(hq:q.length=64)(L:List (List Int)):A5 (TI m h q L) (L.length*Ai m h)=true:=by
 have:=Ln m h q hq (DI Vk Vi Vj L)
 rw [FV] at this
 exact this
theorem TJ(m h:Int)(q:List Int)(hq:q.length=64)(L:List (List Int)):(TI m h q L).length=L.length*Ai m h*64:=by
 have:=Tc m h q hq (DI Vk Vi Vj L)
 rw [FV] at this
 exact this
def Dc(m h:Int)(q:List Int)(L:List (List Int))(every:Int):Int:=if ND m h q L=0 then if 0≤every∧every≤100 then if bE (Cu (L4 (TI m h q L) (L.length*Ai m h)))=0 then 0 else 5 else 1 else ND m h q L
theorem Px{m h:Int}{q:List Int}{L:List (List Int)}(h0:ND m h q L=0):F0 m h L=0∧J8 q=true:=by
 unfold ND at h0
 split at h0
 ·rename_i h1
  split at h0
  ·rename_i h2;exact ⟨h1,h2⟩
  cases h0
 rename_i h1;exact absurd h0 h1
theorem Ed{m h:Int}(hok:1≤m∧m≤64∧1≤h∧h≤64):1≤Ai m h∧Ai m h≤64∧(m+7)/8*((h+7)/8)=(Ai m h:Int):=by
 obtain ⟨k0,k1⟩:=Ee ((m+7)/8) ((h+7)/8) 8 8 (by omega) (by omega)
 have k2:0<((m+7)/8)*((h+7)/8):=Int.mul_pos (by omega) (by omega)
 unfold Ai
 omega
theorem Pw(off:Nat):∀(us:List Value)(j:Nat)(A B D:List Value),A.length=off+j→B.length=us.length→
 List.foldl (fun cs (x:Value×Nat)=>cs.setIfInBounds (off+x.2) x.1) (A++(B++D)).toArray (us.zipIdx j)=(A++(us++D)).toArray
 | [],j,A,B,D,_,hB=>by
   obtain rfl:B=[]:=List.eq_nil_of_length_eq_zero (by simpa using hB)
   simp
 | u::us,j,A,B,D,hA,hB=>by
   cases B with
   | nil=>simp at hB
   | cons y B=>
     simp only [List.zipIdx_cons,List.foldl_cons]
     have e1:(A++(y::B++D)).toArray.setIfInBounds (off+j) u=((A++[u])++(B++D)).toArray:=by
      rw [List.setIfInBounds_toArray,List.set_append_right _ _ (by omega),hA,Nat.sub_self,List.cons_append,List.set_cons_zero,List.append_assoc]
      rfl
     rw [e1,Pw off us (j+1) (A++[u]) B D (by rw [List.length_append,hA];simp;omega) (by simpa using hB)]
     simp
theorem FL{place:Nat→Option (Nat×Nat)}{i off:Nat}{v:Value}{ps ps' ss:List Ae}{rest:List (Nat×Value)}(hr:JK ss ps off ps')(hv:v.cells=(AF ss).toArray)(hp:place i=some (off,(AF ss).length)):
 Instr.fill place (AF ps).toArray ((i,v)::rest)=Instr.fill place (AF ps').toArray rest:=by
 obtain ⟨A,B,D,e1,e2,hA,hB⟩:=hr.eq
 rw [Instr.fill,hp]
 dsimp only
 have hsz:v.cells.size=(AF ss).length:=by rw [hv];simp
 have hlen:(AF ps).length=A.length+(B.length+D.length):=by rw [e1,List.length_append,List.length_append]
 rw [if_neg (by rw [hsz];simp;omega)]
 congr 1
 rw [←Array.foldl_toList,hv,e1,e2]
 have:=Pw off (AF ss) 0 A B D (by omega) hB
 simpa using this
theorem Jh{P:Program}{t:TypeId}{fields:Array Field}{z:Value}{places:Array (Nat×Nat)}{cells:Array Value}{parts:Array (Nat×Value)}(w:World)(hz:(zeroValue t).run P w= .ok z w)(ht:P.underlying t=some (.struct fields))
 (hp:(fields.mapM fun f=>do pure (f.offset,←sizeOf f.type):Sem (Array (Nat×Nat))).run P w= .ok places w) (hf:Instr.fill (places[·]?) z.cells parts.toList=some cells):(Instr.build t parts).run P w= .ok (.agg cells) w:=by
 unfold Instr.build
 simp only [Sem.run_bind,hz,Result.andThen_ok,run_underlying ht,hp,hf,Sem.run_pure]
def gz:Value:= .agg (AF [.val (.int .i64 0), .val (.int .i64 0), .val (.int .i64 0), .ints (List.replicate 64 0), .ints (List.replicate 16 0), .val (.slice none 0 0), .ints (List.replicate 16 0), .val (.slice none 0 0), .val (.int .i64 0), .val (.slice none 0 0)]).toArray
theorem Wc(w:World):(Instr.build 37 #[]).run Tryz.prog w= .ok gz w:=by kernel_rfl
def fp(a b c:Value)(Q C1:List Int)(v1:Value)(C2:List Int)(v2 e d:Value):List Ae:=[.val a, .val b, .val c, .ints Q, .ints C1, .val v1, .ints C2, .val v2, .val e, .val d]
section
variable{a b c x v1 v2 e d y1 y2:Value}{Q Q' C1 C2 D1 D2:List Int}
theorem gh:JK [.val x] (fp a b c Q C1 v1 C2 v2 e d) 0 (fp x b c Q C1 v1 C2 v2 e d):=JK.head (B:=[.val a]) (D:=[.val b, .val c, .ints Q, .ints C1, .val v1, .ints C2, .val v2, .val e, .val d]) rfl
theorem gl:JK [.val x] (fp a b c Q C1 v1 C2 v2 e d) 1 (fp a x c Q C1 v1 C2 v2 e d):= .skipV (JK.head (B:=[.val b]) (D:=[.val c, .ints Q, .ints C1, .val v1, .ints C2, .val v2, .val e, .val d]) rfl)
theorem gm:JK [.val x] (fp a b c Q C1 v1 C2 v2 e d) 2 (fp a b x Q C1 v1 C2 v2 e d):= .skipV (.skipV (JK.head (B:=[.val c]) (D:=[.ints Q, .ints C1, .val v1, .ints C2, .val v2, .val e, .val d]) rfl))
theorem go(hQ:Ac Q 64)(hQ':Ac Q' 64):JK [.ints Q'] (fp a b c Q C1 v1 C2 v2 e d) 3 (fp a b c Q' C1 v1 C2 v2 e d):= .skipV (.skipV (.skipV (JK.head (B:=[.ints Q]) (D:=[.ints C1, .val v1, .ints C2, .val v2, .val e, .val d]) (by simp [AF,Ae.cells,hQ.out,hQ'.out]))))
theorem gt(hQ:Ac Q 64)(h1:Ac C1 16)(h2:Ac C2 16):JK [.val x] (fp a b c Q C1 v1 C2 v2 e d) 101 (fp a b c Q C1 v1 C2 v2 x d):= .skipV (.skipV (.skipV (.skipI hQ (by omega) rfl (.skipI h1 (by omega) rfl (.skipV (.skipI h2 (by omega) rfl (.skipV (JK.head (B:=[.val e]) (D:=[.val d]) rfl))))))))
theorem gq(hQ:Ac Q 64)(h1:Ac C1 16)(h2:Ac C2 16)(k1:Ac D1 16)(k2:Ac D2 16):JK [.ints D1, .val y1, .ints D2, .val y2] (fp a b c Q C1 v1 C2 v2 e d) 67 (fp a b c Q D1 y1 D2 y2 e d):= .skipV (.skipV (.skipV (.skipI hQ (by omega) rfl (JK.head (B:=[.ints C1, .val v1, .ints C2, .val v2]) (D:=[.val e, .val d]) (by simp [AF,Ae.cells,h1.out,h2.out,k1.out,k2.out])))))
end
theorem Fd(m h p ev:Int)(Q C1 C2:List Int)(v1 v2:Value)(hQ:Ac Q 64)(hC1:Ac C1 16)(hC2:Ac C2 16)(w:World):
 (Instr.build 37 #[(0, .int .i64 m),(1, .int .i64 h),(2, .int .i64 p),(3, .agg (iv Q)),(5, .int .i64 ev),(4, .agg (AF [.ints C1, .val v1, .ints C2, .val v2]).toArray)]).run Tryz.prog w= .ok (.agg (AF [.val (.int .i64 m), .val (.int .i64 h), .val (.int .i64 p), .ints Q, .ints C1, .val v1, .ints C2, .val v2, .val (.int .i64 ev), .val (.slice none 0 0)]).toArray) w:=by
 have hZ:Ac (List.replicate 64 (0:Int)) 64:=Ac.rep
 have hz:Ac (List.replicate 16 (0:Int)) 16:=Ac.rep
 refine Jh (places:=#[(0,1),(1,1),(2,1),(3,64),(67,34),(101,1),(102,1)]) w (eW w) Tryz.underlying37 AA ?_
 refine Eq.trans (FL (i:=0) (off:=0) (v:= .int .i64 m) (ss:=[.val (.int .i64 m)]) (ps:=fp (.int .i64 0) (.int .i64 0) (.int .i64 0) (List.replicate 64 0) (List.replicate 16 0) (.slice none 0 0) (List.replicate 16 0) (.slice none 0 0) (.int .i64 0) (.slice none 0 0)) gh rfl rfl) ?_
 refine Eq.trans (FL (i:=1) (off:=1) (v:= .int .i64 h) (ss:=[.val (.int .i64 h)]) gl rfl rfl) ?_
 refine Eq.trans (FL (i:=2) (off:=2) (v:= .int .i64 p) (ss:=[.val (.int .i64 p)]) gm rfl rfl) ?_
 refine Eq.trans (FL (i:=3) (off:=3) (v:= .agg (iv Q)) (ss:=[.ints Q]) (go hZ hQ) (by simp [AF,Ae.cells,Value.cells,iv]) (by simp [AF,Ae.cells,hQ.out])) ?_
 refine Eq.trans (FL (i:=5) (off:=101) (v:= .int .i64 ev) (ss:=[.val (.int .i64 ev)]) (gt hQ hz hz) rfl rfl) ?_
 refine Eq.trans (FL (i:=4) (off:=67) (v:= .agg (AF [.ints C1, .val v1, .ints C2, .val v2]).toArray) (ss:=[.ints C1, .val v1, .ints C2, .val v2]) (gq hQ hz hz hC1 hC2) rfl (by simp [AF,Ae.cells,hC1.out,hC2.out])) ?_
 rfl
structure O8(B:List Int)(n ev:Nat)(C1 S1 C2 S2 D:List Int):Prop where
 l1:Ac C1 16
 l2:Ac C2 16
 m1:Mk (Cu (VW B (BN n ev))) 256 C1 S1
 m2:Mk (Cu (YI B (BN n ev))) 256 C2 S2
 d:D=Mi (FC C1 S1 C2 S2 B (BN n ev)) 0
def W6(m h p:Int)(Q C1:List Int)(v1:Value)(C2:List Int)(v2:Value)(ev:Int)(vd:Value):Value:= .agg (AF [.val (.int .i64 m), .val (.int .i64 h), .val (.int .i64 p), .ints Q, .ints C1, .val v1, .ints C2, .val v2, .val (.int .i64 ev), .val vd]).toArray
def Ku(w0:World)(E m h:Int)(q:List Int)(np:Nat)(every:Int)(B:List Int)(n:Nat)(e:Ending)(w:World):Prop:=
 (E≠0→e= .returned (.tuple #[gz, .int .i64 E])∧Af w0 w)∧
 (E=0→∃(C1 S1 C2 S2 D:List Int) (a1 a2 ad:Option Addr) (n1 k1 n2 k2 nd kd:Nat),O8 B n every.toNat C1 S1 C2 S2 D∧S1.length=n1∧S2.length=n2∧D.length=nd∧
   e= .returned (.tuple #[W6 m h np q C1 (.slice a1 n1 k1) C2 (.slice a2 n2 k2) every (.slice ad nd kd), .int .i64 0])∧St w0 w [own 3 1 a1 n1 k1 (S1.map (Value.int .i64)),own 3 1 a2 n2 k2 (S2.map (Value.int .i64)),own 5 1 ad nd kd (D.map (Value.int .u8))])
theorem RW(w0:World)(m h:Int)(hm: -9223372036854775808≤m∧m≤9223372036854775807)(a:Option Addr)(c:Nat)(R:List Rw)(hR:R.length≤9223372036854775807)(hP:Av w0 a c R)(q:List Int)(hq:Ac q 64)(every:Int)(h0:ND m h q (R.map (·.xs))≠0∨every<0∨100<every):
 Calls Tryz.prog 17 #[.agg #[.int .i64 m, .int .i64 h, .slice a R.length c], .agg (iv q), .int .i64 every] w0 (Ku w0 (Dc m h q (R.map (·.xs)) every) m h q R.length every (TI m h q (R.map (·.xs))) (R.length*Ai m h)):=by
 have hS:=St.start w0
 have HB:=AD fun (w:World)(hx:Af w0 w)=>Hn w m h hm a c R hR (hP.ext hx) q hq
 have HPE:=AD (show Dc m h q (R.map (·.xs)) every=if ND m h q (R.map (·.xs))=0 then if 0≤every∧every≤100 then if bE (Cu (L4 (TI m h q (R.map (·.xs))) ((R.map (·.xs)).length*Ai m h)))=0 then 0 else 5 else 1 else ND m h q (R.map (·.xs)) from rfl)
 obtain ⟨E0,hE0⟩:∃E,ND m h q (R.map (·.xs))=E:=⟨_,rfl⟩
 rw [hE0] at HB HPE h0
 obtain ⟨N,hN⟩:∃N,R.length=N:=⟨_,rfl⟩
 rw [hN] at HB⊢
 clear hP hE0 hN
 by_cases hz:E0=0
 ·subst hz
  have hev:every<0∨100<every:=by
   rcases h0 with h|h
   ·exact absurd rfl h
   exact h
  have HF:=AD (show Dc m h q (R.map (·.xs)) every=1 by rw [HPE.out,if_pos rfl,if_neg (by omega)])
  have HB2:Hid (∀w,Af w0 w→Calls Tryz.prog 19 #[.agg #[.int .i64 m, .int .i64 h, .slice a N c], .agg (iv q)] w fun e w'=>∃(ao:Option Addr) (co:Nat),e= .returned (.tuple #[.slice ao (N*Ai m h) co, .int .i64 0])∧Af w w'):=fun w hx=>(HB.out w hx).mono fun e w' hh=>by
   obtain ⟨ao,co,h1,h2⟩:=hh.2 rfl
   exact ⟨ao,co,h1,h2.1⟩
  clear HPE h0 HB
  rcases hev with hev|hev
  all_goals
   go_enter Tryz.func17,Tryz.ntmps17
   repeat' (first
    | (refine Al 19 ?_);refine Am AA Tryz.call19 (HB2.out _ hS.1) ?_;rintro e w ⟨ao,co,rfl,hE2⟩;replace hS:=hS.ext hE2;clear hE2;refine AX ?_;go_step|refine dd 29 ?_|go_skip|refine X0 ?_|refine IR ?_|refine X9 18 ?_ ?_<;>intro hB<;>(try exact AQ)<;>go_step|refine Es 21 ?_ ?_<;>intro hB<;>(try exact AQ)<;>go_step|refine X4 ?_|refine G6 ?_|refine X3 ?_|refine Sa 3 ?_;clear hS;intro g3 w hS|refine O3 4 ?_;clear hS;intro g4 w hS|refine RD 6 ?_;clear hS;intro g6 w hS|refine PF ?_|refine Jt ?_|refine Qz ?_;clear hS;intro w hS|refine AH ?_;go_step|fail)
   all_goals (try exact AQ)
   all_goals
    refine AM (xs:=[_,_]) rfl (.cons (AB.prt hS rfl (AO (n:=103) rfl) AK (by (repeat (first|exact Bi.nil|(apply Bi.ints;(case hn=>exact DW);(case h=>omega);(case hm=>rfl))|apply Bi.val)))) (.cons (AB.tmp rfl) (.nil))) (by simp) rfl ?_
    exact ⟨fun _=>⟨by rw [HF.out];rfl,hS.1⟩,fun h=>by rw [HF.out] at h;cases h⟩
 have HF:=AD (show Dc m h q (R.map (·.xs)) every=E0 by rw [HPE.out,if_neg hz])
 have HB2:Hid (∀w,Af w0 w→Calls Tryz.prog 19 #[.agg #[.int .i64 m, .int .i64 h, .slice a N c], .agg (iv q)] w fun e w'=>e= .returned (.tuple #[.slice none 0 0, .int .i64 E0])∧Af w w'):=fun w hx=>(HB.out w hx).mono fun e w' hh=>hh.1 hz
 clear HPE h0 HB
 go_enter Tryz.func17,Tryz.ntmps17
 repeat' (first
  | (refine Al 19 ?_);refine Am AA Tryz.call19 (HB2.out _ hS.1) (EW hS ?_);clear hS;intro w hS;go_step|refine dd 29 ?_|go_skip|refine X0 ?_|refine IL ?_|refine X9 18 ?_ ?_<;>intro hB<;>(try exact AQ)<;>go_step|refine X4 ?_|refine X3 ?_|refine Sa 3 ?_;clear hS;intro g3 w hS|refine O3 4 ?_;clear hS;intro g4 w hS|refine RD 6 ?_;clear hS;intro g6 w hS|refine PF ?_|refine Jt ?_|refine Qz ?_;clear hS;intro w hS|refine AH ?_;go_step|fail)
 all_goals (try exact AQ)
 all_goals
  refine AM (xs:=[_,_]) rfl (.cons (AB.prt hS rfl (AO (n:=103) rfl) AK (by (repeat (first|exact Bi.nil|(apply Bi.ints;(case hn=>exact DW);(case h=>omega);(case hm=>rfl))|apply Bi.val)))) (.cons (AB.tmp rfl) (.nil))) (by simp) rfl ?_
  exact ⟨fun _=>⟨by rw [HF.out];rfl,hS.1⟩,fun h=>by rw [HF.out] at h;exact absurd h hz⟩
theorem Jz(w0:World)(m h:Int)(hm: -9223372036854775808≤m∧m≤9223372036854775807)(a:Option Addr)(c:Nat)(R:List Rw)(hR:R.length≤9223372036854775807)(hP:Av w0 a c R)(q:List Int)(hq:Ac q 64)(ev:Nat)(hev:ev≤100)(h0:ND m h q (R.map (·.xs))=0):
 Calls Tryz.prog 17 #[.agg #[.int .i64 m, .int .i64 h, .slice a R.length c], .agg (iv q), .int .i64 ev] w0 (Ku w0 (Dc m h q (R.map (·.xs)) ev) m h q R.length ev (TI m h q (R.map (·.xs))) (R.length*Ai m h)):=by
 have hS:=St.start w0
 have hB0:=fun (w:World)(hx:Af w0 w)=>Hn w m h hm a c R hR (hP.ext hx) q hq
 obtain ⟨hpz,hqk⟩:=Px h0
 obtain ⟨hok,hlen,hall⟩:=JZ hpz
 obtain ⟨q1,q2,q3⟩:=Ed hok
 rw [List.length_map] at hlen
 have hPE:Dc m h q (R.map (·.xs)) ev=if bE (Cu (L4 (TI m h q (R.map (·.xs))) ((R.map (·.xs)).length*Ai m h)))=0 then 0 else 5:=by
  unfold Dc;rw [if_pos h0,if_pos (by omega)]
 have hab:=LR m h q hq (R.map (·.xs))
 have hbl:=TJ m h q hq (R.map (·.xs))
 rw [List.length_map] at hPE hab hbl
 rw [h0] at hB0
 obtain ⟨N,hN⟩:∃N,R.length=N:=⟨_,rfl⟩
 rw [hN] at hB0 hPE hab hbl hlen⊢
 have hn1:N*Ai m h≤192:=by
  have:=Nat.mul_le_mul (show N≤3 by omega) q2
  omega
 obtain ⟨n,hn⟩:∃n,N*Ai m h=n:=⟨_,rfl⟩
 rw [hn] at hB0 hPE hab hbl hn1⊢
 obtain ⟨B,hB⟩:∃B,TI m h q (R.map (·.xs))=B:=⟨_,rfl⟩
 rw [hB] at hB0 hPE hab hbl⊢
 have HB:Hid (∀w,Af w0 w→Calls Tryz.prog 19 #[.agg #[.int .i64 m, .int .i64 h, .slice a N c], .agg (iv q)] w fun e w'=>∃(ao:Option Addr) (co:Nat),e= .returned (.tuple #[.slice ao n co, .int .i64 0])∧St w w' [own 26 64 ao n co (B.map (Value.int .i64))]):=fun w hx=>(hB0 w hx).mono fun e w' hh=>hh.2 rfl
 have HPE:=AD hPE
 have HAB:=AD hab
 have HBL:=AD hbl
 have HF0:=AD (WT (l:=B) ev (show n≤400 by omega))
 have HSR:=AD (YJ ev hbl hab)
 have HN:=AD hN
 have hN3:N≤3:=by omega
 clear hB0 hPE hab hbl hP h0 hpz hqk hall hn hB hN q1 q2 q3 hlen hok hR
 by_cases hr:bE (Cu (L4 B n))=0
 ·have HE:=AD (show Dc m h q (R.map (·.xs)) ev=0 by rw [HPE.out,if_pos hr])
  have HR:=AD hr
  clear hr HPE
  go_enter Tryz.func17,Tryz.ntmps17
  repeat' (first
   | (refine Al 19 ?_);refine Am AA Tryz.call19 (HB.out _ hS.1) ?_;rintro e w ⟨ao,co,rfl,hS2⟩;replace hS:=hS.call1 hS2;clear hS2;refine AX ?_;go_step|refine X0 ?_|refine IR ?_|refine X9 18 ?_ ?_<;>intro hB<;>(try exact AQ)<;>go_step|refine Es 21 ?_ ?_<;>intro hB<;>(try exact AQ)<;>go_step|refine X4 ?_|refine G6 ?_|refine Sa 3 ?_;clear hS;intro g3 w hS|refine O3 4 ?_;clear hS;intro g4 w hS|refine RD 6 ?_;clear hS;intro g6 w hS|refine PF ?_|refine Jt ?_|refine AH ?_;go_step|fail)
  all_goals (try exact AQ)
  repeat' (first
   | refine X3 ?_|refine AH ?_;go_step|fail)
  all_goals (try exact AQ)
  refine AR [14] (fun w=>St w0 w [blk g3 [.int .i64 m, .int .i64 h, .slice a N c],arr g4 64 q]) AA ?_
  replace hS:=hS.drew
  focus
   refine BX 0 BU (V.fieldAddr Rb rfl BK) ?_;go_step
   refine Y5 1 [12,14] ?_
   refine BX 2 BU (V.fieldAddr Rc rfl BK) ?_;go_step
   refine Y5 3 [12,14] ?_
   refine BX 4 BU (V.fieldAddr Rd rfl BK) ?_;go_step
   refine iI 5 [6,12,14] ?_
   refine BX 6 BU (V.len Tryz.underlying22 rfl) ?_;go_step
   refine gZ 7 [12,14] ?_
   refine Ab 8 ?_
   refine Ab 9 ?_
   refine Ab 10 ?_
   refine BL [11,13] AA (by simp) (.cons Ar AA ?_ (.cons Ar AA ?_ (.nil)))
   rotate_left 1
   focus
    refine Y8 ?_;clear hS;intro g10 w hS
    refine At 11 ?_
    refine AY (f:=41) rfl Tryz.call41 (Fq _ ao n co B ev (by omega) (by omega) HAB.out (hS.sl AK)) ?_;rintro e w ⟨C1,S1,C2,S2,a1,a2,m1,k1,m2,k2,hC1,hC2,hm1,hm2,hb1,hb2,ht1,ht2,hM1,hM2,hN2,rfl,hS2⟩;replace hS:=Dy hS hS2;clear hS2;have HM1:=AD hM1;have HT1:=AD ht1;have HM2:=AD hM2;have HT2:=AD ht2;have HN2:=AD hN2;clear hM1 ht1 hM2 ht2 hN2;refine ⟨_,rfl,?_⟩
    refine ⟨fun _ _=>hS.sub AV,?_⟩
    refine AL ?_
    go_step
    refine Bt 12 _ Ar AA AA AA Cp (V.build (vs:=[(0, .int .i64 m),(1, .int .i64 h),(2, .int .i64 (N:Int)),(3, .agg (iv q)),(5, .int .i64 (ev:Int)),(4, .agg (AF [.ints C1, .val (.slice a1 m1 k1), .ints C2, .val (.slice a2 m2 k2)]).toArray)]) rfl (Fd m h (N:Int) (ev:Int) q C1 C2 (.slice a1 m1 k1) (.slice a2 m2 k2) hq hC1 hC2)) AA ?_
    go_step
    refine At 14 ?_
    refine Y9 ?_;clear hS;intro w hS
    refine AE AA ?_ _
   rotate_right 1
   focus
    refine AY (f:=41) rfl Tryz.call41 (Fq _ ao n co B ev (by omega) (by omega) HAB.out (hS.sl AK)) ?_;rintro e w ⟨C1,S1,C2,S2,a1,a2,m1,k1,m2,k2,hC1,hC2,hm1,hm2,hb1,hb2,ht1,ht2,hM1,hM2,hN2,rfl,hS2⟩;replace hS:=Dy hS hS2;clear hS2;have HM1:=AD hM1;have HT1:=AD ht1;have HM2:=AD hM2;have HT2:=AD ht2;have HN2:=AD hN2;clear hM1 ht1 hM2 ht2 hN2;refine ⟨_,rfl,?_⟩
    refine ⟨fun _ _=>hS.sub AV,?_⟩
    refine AL ?_
    go_step
    refine Bt 12 _ Ar AA AA AA Cp (V.build (vs:=[(0, .int .i64 m),(1, .int .i64 h),(2, .int .i64 (N:Int)),(3, .agg (iv q)),(5, .int .i64 (ev:Int)),(4, .agg (AF [.ints C1, .val (.slice a1 m1 k1), .ints C2, .val (.slice a2 m2 k2)]).toArray)]) rfl (Fd m h (N:Int) (ev:Int) q C1 C2 (.slice a1 m1 k1) (.slice a2 m2 k2) hq hC1 hC2)) AA ?_
    go_step
    refine At 13 ?_
    refine Y8 ?_;clear hS;intro g10 w hS
    refine At 14 ?_
    refine Y9 ?_;clear hS;intro w hS
    refine AE AA ?_ _
  all_goals
   repeat' (first|(refine AH ?_;go_step)|fail)
   have hmk1:=HM1.out HF0.out
   have hmk2:=HM2.out (by rw [HSR.out];exact HR.out)
   have htb:EE C1 S1 C2 S2=0:=by unfold EE;rw [if_pos HT1.out];exact HT2.out
   have hsc:=ay hev htb (Gc (show n≤400 by omega) HAB.out) (Ji HBL.out (show n≤400 by omega) HAB.out hmk1 hmk2)
   obtain ⟨D,hD⟩:∃D,Mi (FC C1 S1 C2 S2 B (BN n ev)) 0=D:=⟨_,rfl⟩
   rw [hD] at hsc
   have HSC:=AD hsc
   have HEN:Hid (O8 B n ev C1 S1 C2 S2 D):=⟨hC1,hC2,hmk1,hmk2,hD.symm⟩
   clear hmk1 hmk2 htb hsc hD
   repeat' (first
    | (refine Al 42 ?_);refine Am AA Tryz.call42 (GT _ C1 C2 S1 S2 a1 a2 m1 m2 k1 k2 hC1 hC2 (hS.sl AK) (hS.sl AK) (by omega) (by omega) ao n co B (by omega) (hS.sl AK) (ev:Int)) ?_;rintro e w ⟨ad,kd,nd,hnd,rfl,hS2⟩;rw [HSC.out] at hnd hS2⊢;replace hS:=hS.call1 hS2;clear hS2;have HND:=AD hnd;clear hnd;refine AX ?_;go_step|refine X0 ?_|refine bq ?_|refine X4 ?_|refine dU ?_|refine X3 ?_|refine PG ?_|refine ct ?_;clear hS;intro w hS|refine AH ?_;go_step|fail)
   all_goals (try exact AQ)
   repeat' (first
    | refine X8 ?_|refine JE ?_|refine Qz ?_;clear hS;intro w hS|refine AH ?_;go_step|fail)
   refine AM (xs:=[_,_]) rfl (.cons (AB.prt hS rfl (AO (n:=103) rfl) AK (by (repeat (first|exact Bi.nil|(apply Bi.ints;(case hn=>exact DW);(case h=>omega);(case hm=>rfl))|apply Bi.val)))) (.cons (AB.tmp rfl) (.nil))) (by simp) rfl ?_
   refine ⟨fun h=>absurd HE.out h,fun _=>⟨C1,S1,C2,S2,D,a1,a2,ad,m1,k1,m2,k2,nd,kd,by rw [Int.toNat_natCast];exact HEN.out,hm1,hm2,HND.out,rfl,hS.sub AV⟩⟩
 have HE:=AD (show Dc m h q (R.map (·.xs)) ev=5 by rw [HPE.out,if_neg hr])
 have HR:=AD hr
 clear hr HPE
 go_enter Tryz.func17,Tryz.ntmps17
 repeat' (first
  | (refine Al 19 ?_);refine Am AA Tryz.call19 (HB.out _ hS.1) ?_;rintro e w ⟨ao,co,rfl,hS2⟩;replace hS:=hS.call1 hS2;clear hS2;refine AX ?_;go_step|refine X0 ?_|refine IR ?_|refine X9 18 ?_ ?_<;>intro hB<;>(try exact AQ)<;>go_step|refine Es 21 ?_ ?_<;>intro hB<;>(try exact AQ)<;>go_step|refine X4 ?_|refine G6 ?_|refine Sa 3 ?_;clear hS;intro g3 w hS|refine O3 4 ?_;clear hS;intro g4 w hS|refine RD 6 ?_;clear hS;intro g6 w hS|refine PF ?_|refine Jt ?_|refine AH ?_;go_step|fail)
 all_goals (try exact AQ)
 repeat' (first
  | refine X3 ?_|refine AH ?_;go_step|fail)
 all_goals (try exact AQ)
 refine AR [14] (fun w=>St w0 w [blk g3 [.int .i64 m, .int .i64 h, .slice a N c],arr g4 64 q]) AA ?_
 replace hS:=hS.drew
 focus
  refine BX 0 BU (V.fieldAddr Rb rfl BK) ?_;go_step
  refine Y5 1 [12,14] ?_
  refine BX 2 BU (V.fieldAddr Rc rfl BK) ?_;go_step
  refine Y5 3 [12,14] ?_
  refine BX 4 BU (V.fieldAddr Rd rfl BK) ?_;go_step
  refine iI 5 [6,12,14] ?_
  refine BX 6 BU (V.len Tryz.underlying22 rfl) ?_;go_step
  refine gZ 7 [12,14] ?_
  refine Ab 8 ?_
  refine Ab 9 ?_
  refine Ab 10 ?_
  refine BL [11,13] AA (by simp) (.cons Ar AA ?_ (.cons Ar AA ?_ (.nil)))
  rotate_left 1
  focus
   refine Y8 ?_;clear hS;intro g10 w hS
   refine At 11 ?_
   refine AY (f:=41) rfl Tryz.call41 (Fq _ ao n co B ev (by omega) (by omega) HAB.out (hS.sl AK)) ?_;rintro e w ⟨C1,S1,C2,S2,a1,a2,m1,k1,m2,k2,hC1,hC2,hm1,hm2,hb1,hb2,ht1,ht2,hM1,hM2,hN2,rfl,hS2⟩;replace hS:=Dy hS hS2;clear hS2;have HM1:=AD hM1;have HT1:=AD ht1;have HM2:=AD hM2;have HT2:=AD ht2;have HN2:=AD hN2;clear hM1 ht1 hM2 ht2 hN2;refine ⟨_,rfl,?_⟩
   refine ⟨fun _ _=>hS.sub AV,?_⟩
   refine AL ?_
   go_step
   refine Bt 12 _ Ar AA AA AA Cp (V.build (vs:=[(0, .int .i64 m),(1, .int .i64 h),(2, .int .i64 (N:Int)),(3, .agg (iv q)),(5, .int .i64 (ev:Int)),(4, .agg (AF [.ints C1, .val (.slice a1 m1 k1), .ints C2, .val (.slice a2 m2 k2)]).toArray)]) rfl (Fd m h (N:Int) (ev:Int) q C1 C2 (.slice a1 m1 k1) (.slice a2 m2 k2) hq hC1 hC2)) AA ?_
   go_step
   refine At 14 ?_
   refine Y9 ?_;clear hS;intro w hS
   refine AE AA ?_ _
  rotate_right 1
  focus
   refine AY (f:=41) rfl Tryz.call41 (Fq _ ao n co B ev (by omega) (by omega) HAB.out (hS.sl AK)) ?_;rintro e w ⟨C1,S1,C2,S2,a1,a2,m1,k1,m2,k2,hC1,hC2,hm1,hm2,hb1,hb2,ht1,ht2,hM1,hM2,hN2,rfl,hS2⟩;replace hS:=Dy hS hS2;clear hS2;have HM1:=AD hM1;have HT1:=AD ht1;have HM2:=AD hM2;have HT2:=AD ht2;have HN2:=AD hN2;clear hM1 ht1 hM2 ht2 hN2;refine ⟨_,rfl,?_⟩
   refine ⟨fun _ _=>hS.sub AV,?_⟩
   refine AL ?_
   go_step
   refine Bt 12 _ Ar AA AA AA Cp (V.build (vs:=[(0, .int .i64 m),(1, .int .i64 h),(2, .int .i64 (N:Int)),(3, .agg (iv q)),(5, .int .i64 (ev:Int)),(4, .agg (AF [.ints C1, .val (.slice a1 m1 k1), .ints C2, .val (.slice a2 m2 k2)]).toArray)]) rfl (Fd m h (N:Int) (ev:Int) q C1 C2 (.slice a1 m1 k1) (.slice a2 m2 k2) hq hC1 hC2)) AA ?_
   go_step
   refine At 13 ?_
   refine Y8 ?_;clear hS;intro g10 w hS
   refine At 14 ?_
   refine Y9 ?_;clear hS;intro w hS
   refine AE AA ?_ _
 all_goals
  repeat' (first|(refine AH ?_;go_step)|fail)
  obtain rfl:S2=[]:=HN2.out (by rw [HSR.out];exact HR.out)
  have hsc:=VU HBL.out (show n≤400 by omega) hev HAB.out HT1.out HT2.out (fun e=>HR.out (by rw [e];exact M0 (by simp)))
  have HSC:=AD hsc
  clear hsc
  repeat' (first
   | (refine Al 42 ?_);refine Am AA Tryz.call42 (GT _ C1 C2 S1 [] a1 a2 m1 m2 k1 k2 hC1 hC2 (hS.sl AK) (hS.sl AK) (by omega) (by omega) ao n co B (by omega) (hS.sl AK) (ev:Int)) ?_;rintro e w ⟨ad,kd,nd,hnd,rfl,hS2⟩;rw [HSC.out] at hnd hS2⊢;replace hS:=hS.call1 hS2;clear hS2;have HND:=AD hnd;clear hnd;refine AX ?_;go_step|refine dd 55 ?_|refine X0 ?_|refine bq ?_|refine X4 ?_|refine dU ?_|refine X3 ?_|refine PG ?_|refine ct ?_;clear hS;intro w hS|refine Qz ?_;clear hS;intro w hS|refine AH ?_;go_step|fail)
  all_goals (try exact AQ)
  refine AM (xs:=[_,_]) rfl (.cons (AB.prt hS rfl (AO (n:=103) rfl) AK (by (repeat (first|exact Bi.nil|(apply Bi.ints;(case hn=>exact DW);(case h=>omega);(case hm=>rfl))|apply Bi.val)))) (.cons (AB.tmp rfl) (.nil))) (by simp) rfl ?_
  exact ⟨fun _=>⟨by rw [HE.out];rfl,hS.1⟩,fun h=>by rw [HE.out] at h;cases h⟩
section
variable{P:Program}{ops:Array Oper}{Q:Exit→Act→World→Prop}{a:Act}{w:World}{o:Oper}{K:Act→World→Prop}
theorem ae(l n:Nat)(ho:∀c,o.op≠ .defer c)(h:o.wp P a w K Q):o.wpIn (Fence.wide.inRound l) n P a w K Q:=by
 refine ⟨fun f _=>trivial,?_⟩
 rw [Oper.semAt_plain _ _ _ ho]
 unfold Oper.wp at h
 generalize (execOp a.eval o).run P w=r at h⊢
 match r,h with
 | .ok (.value v) w',h=>exact h
 | .ok .skip w',h=>exact h
 | .ok (.defer d) w',h=>exact h
 | .ok (.enter f args) w',h=>exact ⟨fun h=>(by cases h),CallsIn.inRound l (callsIn_wide.2 h)⟩
 | .ok (.row row args) w',h=>
   refine ⟨fun h=>(by cases h),fun c cs _=>?_⟩
   obtain ⟨v,w'',r,s⟩:=h c cs
   exact ⟨v,w'',r,stepsIn_wide.2 s⟩
 | .halt (.panic v) w',h=>exact h
def OH:Op→Bool
 | .defer _=>false
 | _=>true
theorem DJ(l n:Nat)(hout:¬LetsOut Q):∀(L:List Oper)(a:Act)(w:World),(L.all fun o=>OH o.op)=true→wpList P ops Q L a w→wpListIn (Fence.wide.inRound l) n P ops Q L a w
 | [],a,w,_,h=>h
 | o::L,a,w,hd,h=>by
   rw [List.all_cons,Bool.and_eq_true] at hd
   have hd1:∀c,o.op≠ .defer c:=fun c e=>by rw [e] at hd;exact absurd hd.1 (by simp [OH])
   have e:wpList P ops Q L=wpList P ops Q L:=rfl
   simp only [wpList] at h
   simp only [wpListIn]
   split at h
   ·rename_i hw
    rw [if_pos hw]
    rcases h with h|⟨_,h⟩
    ·have h2:=ae l n hd1 h
     refine ⟨h2.1,?_⟩
     have h3:=h2.2
     revert h3
     have mono:∀(r:Result Next),o.uponIn (Fence.wide.inRound l) n P a (wpList P ops Q L) Q r→o.uponIn (Fence.wide.inRound l) n P a (wpListIn (Fence.wide.inRound l) n P ops Q L) Q r:=fun r hr=>by
      match r,hr with
      | .ok (.value v) w',hr=>exact DJ l n hout L _ _ hd.2 hr
      | .ok .skip w',hr=>exact DJ l n hout L _ _ hd.2 hr
      | .ok (.defer d) w',hr=>exact DJ l n hout L _ _ hd.2 hr
      | .ok (.enter f args) w',hr=>
        refine ⟨hr.1,hr.2.mono ?_⟩
        rintro e w'' he
        match e,he with
        | .returned v,he=>exact DJ l n hout L _ _ hd.2 he
        | .panicked chain,he=>exact he
        | .outgrown,he=>exact he
      | .ok (.row row args) w',hr=>exact ⟨hr.1,hr.2.mono fun v w'' he=>DJ l n hout L _ _ hd.2 he⟩
      | .ok (.round l' f tmps assign body) w',hr=>
        refine ⟨hr.1,hr.2.mono ?_⟩
        rintro e w'' he
        match e,he with
        | .returned v,he=>exact DJ l n hout L _ _ hd.2 he
        | .panicked chain,he=>exact he
        | .outgrown,he=>exact he
      | .halt (.panic v) w',hr=>exact hr
     exact mono _
    exact absurd h hout
   rename_i hw
   rw [if_neg hw]
   exact ⟨fun _ _=>trivial,DJ l n hout L _ _ hd.2 h⟩
theorem BO{l n id:Nat}{L:List Oper}(hout:¬LetsOut Q)(hd:(L.all fun o=>OH o.op)=true)(h:wpList P L.toArray Q L a w):(Code.region id L.toArray false).wpIn (Fence.wide.inRound l) n P Q a w:=
 wpIn_region_lit (DJ l n hout L a w hd h)
end
def FY(r:Aq):Prop:=∀w f,r.holds w f→∀b∈f,∃o:Obj,w.heap[b]? =some o∧o.isCells=true
theorem C6(g:Nat)(cs:List Value):FY (blk g cs):=by
 rintro w f ⟨rfl,t,h⟩ b hb
 obtain rfl:b=g:=by simpa using hb
 exact ⟨_,h,rfl⟩
theorem Ff(e:TypeId)(s:Nat)(a:Option Addr)(n c:Nat)(xs:List Value):FY (own e s a n c xs):=by
 rintro w f ⟨rfl,h⟩ b hb
 rcases h.2 with h2|⟨g,cap,cur,k1,k2,k3,k4⟩
 ·cases h2.1
  simp [Value.ownBlock] at hb
 rw [k1] at hb
 obtain rfl:b=g:=by simpa [Value.ownBlock] using hb
 exact ⟨_,k3,rfl⟩
theorem Ew{w:World}:∀{rs:List Aq} {f:List Nat},(∀r∈rs,FY r)→Cv w rs f→∀b∈f,∃o:Obj,w.heap[b]? =some o∧o.isCells=true
 | [],f,_,h,b,hb=>by have h:f=[]:=h;subst h;cases hb
 | r::rs,f,hc,⟨f1,f2,e,h1,h2⟩,b,hb=>by
   subst e
   rcases List.mem_append.1 hb with hb|hb
   ·exact hc r (by simp) w f1 h1 b hb
   exact Ew (fun x hx=>hc x (by simp [hx])) h2 b hb
theorem Jv{rs:List Aq}(h:∀r∈rs,FY r):FY (star rs):=fun w f ⟨_,hf⟩=>Ew h hf
def Li(w0:World)(B:Nat):List Nat:=((List.range w0.heap.size).filter fun k=>decide (B≤k)&&(match w0.heap[k]? with|some o=>!o.isCells|none=>false))
theorem Ef(w0:World)(B k:Nat):k∈Li w0 B↔B≤k∧∃o:Obj,w0.heap[k]? =some o∧o.isCells=false:=by
 unfold Li
 rw [List.mem_filter,List.mem_range,Bool.and_eq_true,decide_eq_true_eq]
 constructor
 ·rintro ⟨h1,h2,h3⟩
  refine ⟨h2,?_⟩
  cases ho:w0.heap[k]? with
  | none=>rw [ho] at h3;cases h3
  | some o=>rw [ho] at h3;exact ⟨o,rfl,by simpa using h3⟩
 rintro ⟨h1,o,h2,h3⟩
 refine ⟨(Array.getElem?_eq_some_iff.1 h2).1,h1,?_⟩
 rw [h2];simp [h3]
def fixd(w0:World)(B:Nat):Aq where
 holds w f:=f=Li w0 B∧∀k∈f,w.heap[k]? =w0.heap[k]?
 lt:=fun {w f} ⟨e,h2⟩ b hb=>by
  have h3:=h2 b hb
  rw [e] at hb
  obtain ⟨_,o,h4,_⟩:=(Ef w0 B b).1 hb
  rw [h4] at h3
  exact (Array.getElem?_eq_some_iff.1 h3).1
 loc:=fun ⟨e,h2⟩ hs=>⟨e,fun k hk=>(hs k hk).trans (h2 k hk)⟩
end Go.Proofs.YtohacgmhmbijmaaGreatDoor
