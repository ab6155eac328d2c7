/- What the laws RescueHurt need, part 16. -/
import Derived.Test.YtohacgmhmbijmaaGreatDoorBaseHZ2
import Derived.Test.YtohacgmhmbijmaaGreatDoorBaseHZ3
import Derived.Test.YtohacgmhmbijmaaGreatDoorBaseHZ4
import Derived.Test.YtohacgmhmbijmaaGreatDoorBaseHZ5
import Derived.Test.YtohacgmhmbijmaaGreatDoorBaseHZ8
import Derived.Test.YtohacgmhmbijmaaGreatDoorBaseHZ10
import Derived.Test.YtohacgmhmbijmaaGreatDoorBaseHZ11
import Derived.Test.YtohacgmhmbijmaaGreatDoorBaseHZ15
namespace Go.Proofs.YtohacgmhmbijmaaGreatDoor
attribute [local irreducible] Region.wanted
set_option linter.unusedVariables false
set_option maxRecDepth 100000
set_option maxHeartbeats 8000000
def B7(c:List Int)(n:Nat):List Int:=((List.range n).filter fun s=>decide (0<AJ c s)).map fun (s:Nat)=>(s:Int)
def So(c:List Int)(s:Int):Int:=if s= -1 then 0 else AJ c s.toNat
theorem Bf(c:List Int)(n:Nat)(s:Int):s∈B7 c n↔0≤s∧s<n∧0<AJ c s.toNat:=by
 unfold B7
 simp only [List.mem_map,List.mem_filter,List.mem_range,decide_eq_true_eq]
 constructor
 ·rintro ⟨a,⟨h1,h2⟩,rfl⟩;exact ⟨by omega,by omega,by simpa using h2⟩
 intro ⟨h1,h2,h3⟩;exact ⟨s.toNat,⟨by omega,h3⟩,by omega⟩
theorem K2(c:List Int)(n:Nat):(B7 c n).Nodup:=by
 unfold B7
 rw [List.nodup_iff_pairwise_ne,List.pairwise_map]
 refine List.Pairwise.imp ?_ (List.Pairwise.filter _ List.nodup_range)
 intro a b h e
 exact h (by omega)
theorem WV(c:List Int)(n:Nat):Is (Je c n) (-1::B7 c n):=by
 refine ⟨?_,List.nodup_cons.2 ⟨fun h=>by have:=(Bf c n _).1 h;omega,K2 c n⟩⟩
 unfold Je B7
 simp [List.map_map,Function.comp_def]
theorem eN(c:List Int)(n:Nat):∀x∈Je c n,x.1=isum (So c) x.2:=by
 intro x hx
 rcases List.mem_cons.1 hx with rfl|hx
 ·simp [isum,So]
 obtain ⟨s,_,rfl⟩:=List.mem_map.1 hx
 simp only [isum,List.map_cons,List.map_nil,List.sum_cons,List.sum_nil,So]
 rw [if_neg (by omega)];simp
theorem NW(c:Nat→Nat):∀k,k≤16→nx c k*2^(16-k)=sm (fun i=>c i*2^(15-i)) k
 | 0,_=>by simp [nx,sm]
 | k+1,h=>by
   have ih:=NW c k (by omega)
   rw [sm,←ih,nx,Nat.add_mul,show 16-k=(16-(k+1))+1 by omega,show 16-(k+1)=15-k by omega,Nat.pow_succ]
   rw [Nat.mul_comm 2 (nx c k),Nat.mul_assoc,Nat.mul_comm 2 (2^(15-k))]
theorem Np(a b:Nat→Nat):∀k,sm (fun i=>a i+b i) k=sm a k+sm b k
 | 0=>rfl
 | k+1=>by simp only [sm];rw [Np a b k];omega
theorem Gh{a b:Nat→Nat}:∀k,(∀i,i<k→a i=b i)→sm a k=sm b k
 | 0,_=>rfl
 | k+1,h=>by simp only [sm];rw [Gh k fun i hi=>h i (by omega),h k (by omega)]
def H8(l:Nat):Nat:=if 1≤l then 2^(16-l) else 0
theorem Yv(l:Nat)(h:l≤16):sm (fun i=>(if l=i+1 then 1 else 0)*2^(15-i)) 16=H8 l:=by
 have:∀l,l<17→sm (fun i=>(if l=i+1 then 1 else 0)*2^(15-i)) 16=H8 l:=by decide
 exact this l (by omega)
theorem PT(f:Int→Nat)(hf:∀s,f s≤16):∀n,sm (fun i=>(B8 f n (i+1)).length*2^(15-i)) 16=A2 (fun s:Nat=>H8 (f (s:Int))) (List.range n)
 | 0=>by simp [B8,A2];decide
 | n+1=>by
   rw [List.range_succ,F4,←PT f hf n]
   have:A2 (fun s:Nat=>H8 (f (s:Int))) [n]=H8 (f (n:Int)):=by simp [A2]
   rw [this,←Yv _ (hf _),←Np]
   refine Gh 16 fun i hi=>?_
   rw [Hq,←Nat.add_mul]
   by_cases h:f (n:Int)=i+1
   ·rw [if_pos h,if_pos h,List.length_append];rfl
   rw [if_neg h,if_neg h];rfl
theorem IM{α β:Type}(g:α→β)(f:β→Nat)(l:List α):A2 f (l.map g)=A2 (fun x=>f (g x)) l:=by
 unfold A2;rw [List.map_map];rfl
theorem Vd{α β:Type}(g:α→β)(f:β→Int)(l:List α):isum f (l.map g)=isum (fun x=>f (g x)) l:=by
 unfold isum;rw [List.map_map];rfl
theorem PD{α:Type}(p:α→Bool)(f:α→Nat)(l:List α)(h:∀x∈l,p x=false→f x=0):A2 f (l.filter p)=A2 f l:=by
 induction l with
 | nil=>rfl
 | cons x l ih=>
   have ih:=ih fun y hy=>h y (by simp [hy])
   rw [List.filter_cons]
   by_cases hp:p x=true
   ·rw [if_pos hp,A8,A8,ih]
   rw [if_neg hp,A8,ih,h x (by simp) (by simpa using hp),Nat.zero_add]
theorem O3{α:Type}(p:α→Bool)(f:α→Int)(l:List α)(h:∀x∈l,p x=false→f x=0):isum f (l.filter p)=isum f l:=by
 induction l with
 | nil=>rfl
 | cons x l ih=>
   have ih:=ih fun y hy=>h y (by simp [hy])
   rw [List.filter_cons]
   by_cases hp:p x=true
   ·rw [if_pos hp,CD,CD,ih]
   rw [if_neg hp,CD,ih,h x (by simp) (by simpa using hp),Int.zero_add]
def Fw(c:List Int)(n:Nat)(l:Int→Nat):Int:=isum (fun s:Nat=>AJ c s*(l (s:Int):Nat)) (List.range n)
structure MD(c:List Int)(n:Nat)(l:Int→Nat):Prop where
 top:∀s∈B7 c n,1≤l s∧l s≤16
 kraft:A2 (fun s=>2^(16-l s)) (B7 c n)<2^16
theorem MJ(c:List Int)(n:Nat)(l:Int→Nat)(h0:∀i,i<n→0≤AJ c i):isum (fun s=>So c s*(l s:Nat)) (B7 c n)=Fw c n l:=by
 unfold B7 Fw
 rw [Vd,ES _ (fun s:Nat=>AJ c s*(l (s:Int):Nat)) _ fun s _=>?_]
 ·refine O3 _ _ _ fun x hx hp=>?_
  have:=h0 x (List.mem_range.1 hx)
  have h1:¬0<AJ c x:=by simpa using hp
  rw [show AJ c x=0 by omega,Int.zero_mul]
 unfold So;rw [if_neg (by omega)];simp
theorem Vj{c:List Int}{n:Nat}{R:List Pk}(hn:n≤256)(h0:∀i,i<n→0≤AJ c i)(hR:Ci (Je c n) 16 R)(f:Int→Nat)(hf:f=EW (R.take (2*(Je c n).length-2))):
 (∀s,f s≤16)∧(∀s,s∉B7 c n→0≤s→f s=0)∧MD c n f∧(∀l,MD c n l→Fw c n f≤Fw c n l)∧(∀a b,a∈B7 c n→b∈B7 c n→AJ c b.toNat<AJ c a.toNat→f a≤f b):=by
 have hS:=WV c n
 have hlen:=hS.len
 have hpl:(B7 c n).length≤n:=by
  unfold B7
  have:=List.length_filter_le (fun s=>decide (0<AJ c s)) (List.range n)
  simp at this⊢;exact this
 have hw0:∀s∈(-1::B7 c n),0≤So c s:=fun s hs=>by
  rcases List.mem_cons.1 hs with rfl|hs
  ·simp [So]
  have:=(Bf c n s).1 hs
  unfold So;rw [if_neg (by omega)];omega
 obtain ⟨_,b1,b2,b3,b4,b5⟩:=TB hS (So c) (eN c n) hw0 (by simp) (by simp;omega) hR
 rw [←hlen,←hf] at b1 b2 b3 b4 b5
 have hpos:∀s∈B7 c n,1≤f s:=fun s hs=>Tg b3 (List.mem_cons_of_mem _ hs) (List.mem_cons_self (a:= -1)) (by have:=(Bf c n s).1 hs;omega)
 rw [A8] at b3
 have hone:1≤2^(16-f (-1)):=Nat.one_le_two_pow
 refine ⟨b1,fun s hs hs0=>b2 s (by simp only [List.mem_cons,not_or];exact ⟨by omega,hs⟩),⟨fun s hs=>⟨hpos s hs,b1 s⟩,by omega⟩,fun l hl=>?_,fun a b ha hb hab=>?_⟩
 ·have hb4:=b4 (fun s=>if s= -1 then 16 else l s) (fun s hs=>by
   show (if s= -1 then 16 else l s)≤16
   rcases List.mem_cons.1 hs with rfl|hs
   ·simp
   ·have:=(Bf c n s).1 hs
    rw [if_neg (by omega)];exact (hl.top s hs).2) (by
   rw [A8]
   have:=hl.kraft
   have e:A2 (fun s=>2^(16-(if s= -1 then 16 else l s))) (B7 c n)=A2 (fun s=>2^(16-l s)) (B7 c n):=Ce _ _ _ fun s hs=>by
    have:=(Bf c n s).1 hs
    rw [if_neg (by omega)]
   rw [e];simp;simp at this;omega)
  rw [CD,CD] at hb4
  have z:∀x:Int,So c (-1)*x=0:=fun x=>by simp [So]
  rw [z,z,MJ c n f h0] at hb4
  have e:isum (fun s=>So c s*((if s= -1 then 16 else l s:Nat):Int)) (B7 c n)=isum (fun s=>So c s*(l s:Nat)) (B7 c n):=ES _ _ _ fun s hs=>by
   have:=(Bf c n s).1 hs
   rw [if_neg (by omega)]
  rw [e,MJ c n l h0] at hb4
  omega
 have h1:=(Bf c n a).1 ha
 have h2:=(Bf c n b).1 hb
 exact b5 a b (List.mem_cons_of_mem _ hb) (by unfold So;rw [if_neg (by omega),if_neg (by omega)];exact hab)
theorem Ku{a b:Nat→Nat}:∀k,(∀i,i<k→a i=b i)→nx a k=nx b k
 | 0,_=>rfl
 | k+1,h=>by rw [nx,nx,Ku k fun i hi=>h i (by omega),h k (by omega)]
theorem MH{a b:Nat→Nat}:∀k,(∀i,i<k→a i=b i)→GQ a k=GQ b k
 | 0,_=>rfl
 | k+1,h=>by rw [GQ,GQ,MH k fun i hi=>h i (by omega),h k (by omega),Ku k fun i hi=>h i (by omega)]
theorem Vz(l:Nat)(h:l≤16):sm (fun i=>if l=i+1 then 1 else 0) 16=if 1≤l then 1 else 0:=by
 have:∀l,l<17→sm (fun i=>if l=i+1 then 1 else 0) 16=if 1≤l then 1 else 0:=by decide
 exact this l (by omega)
theorem PS(f:Int→Nat)(hf:∀s,f s≤16):∀n,sm (fun i=>(B8 f n (i+1)).length) 16=A2 (fun s:Nat=>if 1≤f (s:Int) then 1 else 0) (List.range n)
 | 0=>by simp [B8,A2];decide
 | n+1=>by
   rw [List.range_succ,F4,←PS f hf n]
   have:A2 (fun s:Nat=>if 1≤f (s:Int) then 1 else 0) [n]=if 1≤f (n:Int) then 1 else 0:=by simp [A2]
   rw [this,←Vz _ (hf _),←Np]
   refine Gh 16 fun i hi=>?_
   rw [Hq]
   by_cases h:f (n:Int)=i+1
   ·rw [if_pos h,if_pos h,List.length_append];rfl
   rw [if_neg h,if_neg h];rfl
theorem Gm(f:Int→Nat)(n:Nat):∀k,(C9 f n k).length=sm (fun i=>(B8 f n (i+1)).length) k
 | 0=>rfl
 | k+1=>by rw [DD,List.length_append,Gm f n k,sm]
theorem JE(f:Int→Nat)(n k:Nat)(s:Int):s∈B8 f n k↔0≤s∧s<n∧f s=k:=by
 unfold B8
 simp only [List.mem_map,List.mem_filter,List.mem_range,decide_eq_true_eq]
 constructor
 ·rintro ⟨a,⟨h1,h2⟩,rfl⟩;exact ⟨by omega,by omega,h2⟩
 intro ⟨h1,h2,h3⟩;exact ⟨s.toNat,⟨by omega,by rw [Int.toNat_of_nonneg h1];exact h3⟩,by omega⟩
theorem Pg(f:Int→Nat)(n k:Nat):(B8 f n k).Nodup:=by
 unfold B8
 rw [List.nodup_iff_pairwise_ne,List.pairwise_map]
 refine List.Pairwise.imp ?_ (List.Pairwise.filter _ List.nodup_range)
 intro a b h e
 exact h (by omega)
theorem Hr(f:Int→Nat)(n:Nat)(s:Int):∀k,s∈C9 f n k↔0≤s∧s<n∧1≤f s∧f s≤k
 | 0=>by simp [C9];intro _ _ _;omega
 | k+1=>by
   rw [DD,List.mem_append,Hr f n s k,JE]
   constructor
   ·rintro (h|h)<;>omega
   intro h
   by_cases e:f s=k+1
   ·right;omega
   left;omega
theorem Ic(f:Int→Nat)(n:Nat):∀k,(C9 f n k).Nodup
 | 0=>by simp [C9]
 | k+1=>by
   rw [DD,List.nodup_append]
   refine ⟨Ic f n k,Pg f n (k+1),fun a ha b hb e=>?_⟩
   subst e
   have h1:=(Hr f n a k).1 ha
   have h2:=(JE f n (k+1) a).1 hb
   omega
theorem Mu(f:Int→Nat)(n:Nat):∀k,∀x∈(C9 f n k).zip (GQ (fun i=>(B8 f n (i+1)).length) k),x.2.1=f x.1
 | 0,x,h=>by simp [C9] at h
 | k+1,x,h=>by
   rw [DD,GQ,List.zip_append (by rw [Gm,FO])] at h
   rcases List.mem_append.1 h with h|h
   ·exact Mu f n k x h
   have h1:=(List.of_mem_zip (a:=x.1) (b:=x.2) h)
   obtain ⟨j,_,e⟩:=List.mem_map.1 h1.2
   have h2:=(JE f n (k+1) x.1).1 h1.1
   rw [h2.2.2,←e]
def lw(L:List (Int×Nat×Nat))(s:Int):Nat:=match symW L s with
 | some x=>x.1
 | none=>0
theorem Sp{C S:List Int}(h:sm (cc C) 16=S.length):(Bh C S).map (·.1)=S:=by
 unfold Bh
 exact List.map_fst_zip (by rw [FO,h];exact Nat.le_refl _)
theorem Zg{C S:List Int}(h:sm (cc C) 16=S.length):(Bh C S).map (·.2)=GQ (cc C) 16:=by
 unfold Bh
 exact List.map_snd_zip (by rw [FO,h];exact Nat.le_refl _)
theorem Qm{C S:List Int}(h:Ay C S=0){x:Int×Nat×Nat}(hx:x∈Bh C S):symW (Bh C S) x.1=some x.2∧lw (Bh C S) x.1=x.2.1:=by
 have:=(Bb h).symW hx
 exact ⟨this,by unfold lw;rw [this]⟩
theorem Zz{C S:List Int}(h:Ay C S=0){s:Int}(hs:s∈S):∃x∈Bh C S,x.1=s:=by
 have h2:=(Dq h).2.1
 rw [←Sp h2] at hs
 obtain ⟨x,hx,e⟩:=List.mem_map.1 hs
 exact ⟨x,hx,e⟩
theorem Vi{C S:List Int}(h:Ay C S=0)(s:Int):(s∈S→1≤lw (Bh C S) s∧lw (Bh C S) s≤16)∧(s∉S→lw (Bh C S) s=0):=by
 constructor
 ·intro hs
  obtain ⟨x,hx,rfl⟩:=Zz h hs
  rw [(Qm h hx).2]
  have:=(Bb h).long x hx
  omega
 intro hs
 unfold lw
 cases e:symW (Bh C S) s with
 | none=>rfl
 | some y=>exact absurd (KC C S _ (Ed e)).1 hs
theorem Qn{c C S:List Int}{n:Nat}{f:Int→Nat}(hn:n≤256)(h16:∀s,f s≤16)(hz:∀s,s∉B7 c n→0≤s→f s=0)(hl:MD c n f)(hC:∀i,i<16→AJ C i=((B8 f n (i+1)).length:Nat))(hS:S=C9 f n 16):
 Ay C S=0∧(∀s:Int,0≤s→s<n→lw (Bh C S) s=f s)∧S.length=(B7 c n).length∧(∀s,s∈S↔s∈B7 c n):=by
 have hcc:∀i,i<16→cc C i=(B8 f n (i+1)).length:=fun i hi=>by unfold cc;rw [hC i hi];simp
 have hmem:∀s,s∈S↔s∈B7 c n:=fun s=>by
  rw [hS,Hr]
  constructor
  ·intro h
   by_cases hp:s∈B7 c n
   ·exact hp
   have:=hz s hp h.1;omega
  intro h
  have h1:=(Bf c n s).1 h
  have h2:=hl.top s h
  exact ⟨h1.1,h1.2.1,h2.1,h2.2⟩
 have hsm:sm (cc C) 16=S.length:=by rw [hS,Gm,Gh 16 hcc]
 have hlen:S.length=(B7 c n).length:=by
  rw [hS,Gm,PS f h16]
  unfold B7
  rw [List.length_map,←Vs]
  refine Ce _ _ _ fun s hs=>?_
  by_cases hp:(s:Int)∈B7 c n
  ·have h1:=(Bf c n s).1 hp
   rw [if_pos (hl.top _ hp).1,if_pos (by simpa using h1.2.2)]
  have h1:¬0<AJ c s:=fun h=>hp ((Bf c n s).2 ⟨by omega,by simp at hs;omega,by simpa using h⟩)
  rw [if_neg (by rw [hz _ hp (by omega)];omega),if_neg (by simpa using h1)]
 have hpl:(B7 c n).length≤n:=by
  unfold B7
  have:=List.length_filter_le (fun s=>decide (0<AJ c s)) (List.range n)
  simp at this⊢;exact this
 have hnx:nx (cc C) 16<65536:=by
  have h1:=NW (fun i=>(B8 f n (i+1)).length) 16 (by omega)
  rw [PT f h16] at h1
  rw [Ku 16 hcc]
  have h2:A2 (fun s:Nat=>H8 (f (s:Int))) (List.range n)=A2 (fun s=>2^(16-f s)) (B7 c n):=by
   unfold B7
   rw [IM,←PD (fun s=>decide (0<AJ c s)) (fun s:Nat=>H8 (f (s:Int))) (List.range n) fun s hs hp=>?_]
   ·refine Ce _ _ _ fun s hs=>?_
    have h3:=List.mem_filter.1 hs
    have hp:(s:Int)∈B7 c n:=(Bf c n s).2 ⟨by omega,by have:=h3.1;simp at this;omega,by simpa using h3.2⟩
    unfold H8;rw [if_pos (hl.top _ hp).1]
   have hp2:(s:Int)∉B7 c n:=fun h=>by have:=((Bf c n s).1 h).2.2;simp at this hp;omega
   unfold H8;rw [hz _ hp2 (by omega)];rfl
  rw [h2] at h1
  have:=hl.kraft
  simp at h1 this
  omega
 have htab:Ay C S=0:=by
  refine ZX ((EJ C).2 ⟨fun k hk=>?_,by omega⟩) hsm (fun s hs=>?_) (by rw [hS];exact Ic f n 16) ((Gg _).2 hnx)
  ·have:=Gl f n (k+1)
   rw [hC k hk];omega
  have:=(Bf c n s).1 ((hmem s).1 hs);omega
 refine ⟨htab,fun s h0 h1=>?_,hlen,hmem⟩
 by_cases hs:s∈S
 ·obtain ⟨x,hx,rfl⟩:=Zz htab hs
  rw [(Qm htab hx).2]
  refine Mu f n 16 x ?_
  unfold Bh at hx
  rw [hS,MH 16 hcc] at hx
  exact hx
 rw [(Vi htab s).2 hs,hz s (fun h=>hs ((hmem s).2 h)) h0]
theorem PE{α:Type}[DecidableEq α](f:α→Nat):∀(A B:List α),A.Nodup→(∀a∈A,a∈B)→A2 f A≤A2 f B
 | [],B,_,_=>by simp [A2]
 | a::A,B,hn,h=>by
   obtain ⟨h1,h2⟩:=List.nodup_cons.1 hn
   have p:=List.perm_cons_erase (h a (by simp))
   rw [Tp f p,A8,A8]
   have:=PE f A (B.erase a) h2 fun x hx=>(List.mem_erase_of_ne (fun e=>h1 (by rw [←e];exact hx))).2 (h x (by simp [hx]))
   omega
theorem Re(c:Nat→Nat):∀k,k≤16→A2 (fun x=>2^(16-x.1)) (GQ c k)=nx c k*2^(16-k)
 | 0,_=>by simp [GQ,A2,nx]
 | k+1,h=>by
   rw [NW c (k+1) h,sm,←NW c k (by omega),←Re c k (by omega),GQ,F4,IM]
   refine congrArg (_+ ·) ?_
   have:∀m,A2 (fun _:Nat=>2^(16-(k+1))) (List.range m)=m*2^(15-k):=fun m=>by
    have:=IN (fun _:Nat=>1) (2^(15-k)) (List.range m)
    simp only [Nat.one_mul] at this
    rw [show 16-(k+1)=15-k by omega,this,Hh,List.length_range]
   exact this (c k)
theorem T8{C S:List Int}(h:Ay C S=0)(c:List Int)(n:Nat)(hall:∀s∈B7 c n,s∈S):MD c n (lw (Bh C S)):=by
 obtain ⟨h1,h2,h3,h4,h5,h6⟩:=Dq h
 refine ⟨fun s hs=>(Vi h s).1 (hall s hs),?_⟩
 have a1:=PE (fun s=>2^(16-lw (Bh C S) s)) (B7 c n) S (K2 c n) hall
 have a2:A2 (fun s=>2^(16-lw (Bh C S) s)) S=A2 (fun x=>2^(16-x.2.1)) (Bh C S):=by
  have e1:=IM (fun x:Int×Nat×Nat=>x.1) (fun s=>2^(16-lw (Bh C S) s)) (Bh C S)
  rw [Sp h2] at e1
  rw [e1]
  exact Ce _ _ _ fun x hx=>by rw [(Qm h hx).2]
 have a3:A2 (fun x:Int×Nat×Nat=>2^(16-x.2.1)) (Bh C S)=A2 (fun x=>2^(16-x.1)) (GQ (cc C) 16):=by
  rw [←Zg h2,IM]
 have a4:=Re (cc C) 16 (Nat.le_refl _)
 have a5:=(Gg _).1 h6
 simp at a4
 have:(2:Nat)^16=65536:=by decide
 omega
end Go.Proofs.YtohacgmhmbijmaaGreatDoor
namespace Go.Proofs.YtohacgmhmbijmaaGreatDoor
attribute [local irreducible] Region.wanted
open Go.RowKit
set_option linter.unusedVariables false
set_option maxRecDepth 100000
set_option maxHeartbeats 8000000
structure Mk(c:List Int)(n:Nat)(C S:List Int):Prop where
 len:Al C 16
 ok:Ay C S=0
 mem:∀s,s∈S↔s∈B7 c n
 slen:S.length=(B7 c n).length
 best:∀l,MD c n l→Fw c n (lw (Bh C S))≤Fw c n l
 order:∀a b,a∈B7 c n→b∈B7 c n→AJ c b.toNat<AJ c a.toNat→lw (Bh C S) a≤lw (Bh C S) b
 lens:MD c n (lw (Bh C S))
theorem OX(c:List Int)(n:Nat)(f g:Int→Nat)(h:∀s:Int,0≤s→s<n→f s=g s):Fw c n f=Fw c n g:=by
 unfold Fw
 refine ES _ _ _ fun s hs=>?_
 rw [h s (by omega) (by have:=List.mem_range.1 hs;omega)]
theorem dz{c:List Int}(h:bE c=0):c.length≤256∧∀i,i<c.length→0≤AJ c i∧AJ c i≤9999:=by
 unfold bE at h
 by_cases h1:256<c.length
 ·rw [if_pos h1] at h;cases h
 rw [if_neg h1] at h
 by_cases h2:Bt c 0 9999=true
 ·exact ⟨by omega,(BF c 0 9999).1 h2⟩
 rw [if_neg h2] at h;cases h
theorem dy{c:List Int}(h1:c.length≤256)(h2:∀i,i<c.length→0≤AJ c i∧AJ c i≤9999):bE c=0:=by
 unfold bE;rw [if_neg (by omega),if_pos ((BF c 0 9999).2 h2)]
theorem Tj(w0:World)(c:List Int)(ad:Option Addr)(n cap:Nat)(hv:Sl w0 1 (.slice ad n cap) n (c.map (Value.int .i64)))(hn:n≤9223372036854775807)(hok:bE c=0):
 Calls Tryz.prog 72 #[.slice ad n cap] w0 fun e w=>∃(C S:List Int) (ao:Option Addr) (co:Nat),Mk c n C S∧e= .returned (.tuple #[tv C (.slice ao S.length co), .int .i64 0])∧St w0 w [own 3 1 ao S.length co (S.map (Value.int .i64))]:=by
 refine (Vk w0 c ad n cap hv hn hok).mono ?_
 rintro e w ⟨f,R,C,S,ao,co,hR,hf,hC,hCi,hSy,rfl,hS⟩
 have hcl:c.length=n:=by have:=hv.1;simpa using this
 obtain ⟨b1,b2⟩:=dz hok
 rw [hcl] at b1 b2
 obtain ⟨m1,m2,m3,m4,m5⟩:=Vj b1 (fun i hi=>(b2 i hi).1) hR f hf
 obtain ⟨t1,t2,t3,t4⟩:=Qn b1 m1 m2 m3 hCi hSy
 have hin:∀s∈B7 c n,0≤s∧s<n:=fun s hs=>by have:=(Bf c n s).1 hs;exact ⟨this.1,this.2.1⟩
 have hcost:Fw c n (lw (Bh C S))=Fw c n f:=OX _ _ _ _ t2
 refine ⟨C,S,ao,co,⟨hC,t1,t4,t3,fun l hl=>by rw [hcost];exact m4 l hl,fun a b ha hb h=>?_,T8 t1 c n fun s hs=>(t4 s).2 hs⟩,rfl,hS⟩
 rw [t2 a (hin a ha).1 (hin a ha).2,t2 b (hin b hb).1 (hin b hb).2]
 exact m5 a b ha hb h
theorem QF(w:World):(Instr.build 32 #[]).run Tryz.prog w= .ok (tv (List.replicate 16 0) (.slice none 0 0)) w:=by kernel_rfl
theorem Vl(w0:World)(c:List Int)(ad:Option Addr)(n cap:Nat)(hv:Sl w0 1 (.slice ad n cap) n (c.map (Value.int .i64)))(hn:n≤9223372036854775807)(hbad:bE c≠0):
 Calls Tryz.prog 72 #[.slice ad n cap] w0 fun e w=>e= .returned (.tuple #[tv (List.replicate 16 0) (.slice none 0 0), .int .i64 (bE c)])∧Ai w0 w:=by
 have hS:=St.start w0
 have HCK:=AD (fun (w:World)(hE:Ai w0 w)=>KR w c ad n cap (hv.ext hE) hn)
 obtain ⟨B,hB⟩:∃B,bE c=B:=⟨_,rfl⟩
 rw [hB] at HCK hbad⊢
 clear hB
 go_enter Tryz.func72,Tryz.ntmps72
 repeat' (first
  | (refine As 102 ?_);refine At AA Tryz.call102 (HCK.out _ hS.1) (Fp hS ?_);clear hS;intro w hS;go_step|refine X0 ?_|refine Fe 22 ?_|refine RS 2 ?_;clear hS;intro g2 w hS|refine AG ?_;go_step|fail)
 repeat' (first
  | (refine AQ 23 ?_);refine An AA (V.build (vs:=[]) rfl QF) ?_;go_step|refine X0 ?_|refine S9 ?_;clear hS;intro w hS|refine AG ?_;go_step|fail)
 refine AK (xs:=[_,_]) rfl (.cons (AC.prt hS rfl (AO (n:=17) rfl) AL (by (repeat (first|exact Bx.nil|(apply Bx.ints;(case hn=>exact EC);(case h=>omega);(case hm=>rfl))|apply Bx.val)))) (.cons (AC.tmp rfl) (.nil))) (by simp) rfl ?_
 exact ⟨rfl,hS.1⟩
theorem W4:Al (List.replicate 16 (0:Int)) 16:=List.length_replicate
theorem W5:Ay (List.replicate 16 0) []=0:=by decide
theorem ZY(m0 m1 m2 m3 m4 m5 m6 m7 m8 m9 m10 m11 m12 m13 m14 m15 q0 q1 q2 q3 q4 q5 q6 q7 q8 q9 q10 q11 q12 q13 q14 q15:Int)(a b:Option Addr)(n c k d:Nat)(w:World):(Instr.build 34 #[(0,tv [m0,m1,m2,m3,m4,m5,m6,m7,m8,m9,m10,m11,m12,m13,m14,m15] (.slice a n c)),(1,tv [q0,q1,q2,q3,q4,q5,q6,q7,q8,q9,q10,q11,q12,q13,q14,q15] (.slice b k d))]).run Tryz.prog w= .ok (.agg (AF [.ints [m0,m1,m2,m3,m4,m5,m6,m7,m8,m9,m10,m11,m12,m13,m14,m15], .val (.slice a n c), .ints [q0,q1,q2,q3,q4,q5,q6,q7,q8,q9,q10,q11,q12,q13,q14,q15], .val (.slice b k d)]).toArray) w:=by kernel_rfl
theorem T9(l l2:List Int)(hl:l.length=16)(hl2:l2.length=16)(a b:Option Addr)(n c k d:Nat)(w:World):(Instr.build 34 #[(0,tv l (.slice a n c)),(1,tv l2 (.slice b k d))]).run Tryz.prog w= .ok (.agg (AF [.ints l, .val (.slice a n c), .ints l2, .val (.slice b k d)]).toArray) w:=by
 match l,hl,l2,hl2 with
 | [m0,m1,m2,m3,m4,m5,m6,m7,m8,m9,m10,m11,m12,m13,m14,m15],_,[q0,q1,q2,q3,q4,q5,q6,q7,q8,q9,q10,q11,q12,q13,q14,q15],_=>exact ZY _ _ _ _ _ _ _ _ _ _ _ _ _ _ _ _ _ _ _ _ _ _ _ _ _ _ _ _ _ _ _ _ a b n c k d w
theorem FQ:∀(T:List (CH×Bool))(A B:List Int),Dk Bz T (A,B)=(0,A++(T.filter fun x=>x.2).map (·.1.1),B++(T.filter fun x=>!x.2).map (·.1.1))
 | [],A,B=>by simp [Dk]
 | (t,b)::T,A,B=>by
  rw [Dk,if_pos (show (Bz (A,B) t b).1=0 from rfl)]
  cases b
  ·show Dk Bz T (A,B++[t.1])=_
   rw [FQ T];simp
  show Dk Bz T (A++[t.1],B)=_
  rw [FQ T];simp
theorem cO(l:List Int)(n:Nat):∀x∈DA l 0 n,(x.2=true→x.1.1∈P4 l n)∧(x.2=false→x.1.1∈LG l n):=by
 have h:=(Jy l n).symm.trans (FQ (DA l 0 n) [] [])
 simp only [Prod.mk.injEq,List.nil_append,true_and] at h
 intro x hx
 refine ⟨fun h2=>?_,fun h2=>?_⟩
 ·rw [h.1];exact List.mem_map.2 ⟨x,List.mem_filter.2 ⟨hx,h2⟩,rfl⟩
 rw [h.2];exact List.mem_map.2 ⟨x,List.mem_filter.2 ⟨hx,by rw [h2];rfl⟩,rfl⟩
theorem MI{L:List Int}(h:L.length≤9999):bE (Cn L)=0:=by
 refine dy (by rw [Dj];omega) fun i hi=>?_
 rw [Dj] at hi
 have:=G8 L hi
 omega
theorem T4{l:List Int}{n:Nat}(hl:l.length=n*64):Ap l 0 n=l:=by
 unfold Ap
 rw [Nat.zero_mul,List.drop_zero,Nat.sub_zero,List.take_of_length_le (by omega)]
theorem WQ{C1 S1 C2 S2 l:List Int}{n:Nat}(hl:l.length=n*64)(hn:0<n)(h0:Cg C1 S1 C2 S2 l n=0)(ht:D4 C1 S1 C2 S2=0)(hb:BX l n=0)(hw:Ef (Bh C1 S1) (Bh C2 S2) (DA l 0 n)):0<(C6 C1 S1 C2 S2 l n).length:=by
 obtain ⟨t1,t2⟩:=GH ht
 have hall:Aw l n=true:=by
  unfold BX at hb
  split at hb
  ·cases hb
  cases h:Aw l n
  ·rw [h] at hb;cases hb
  rfl
 unfold C6 Bm
 rw [if_pos h0,GU _ _ _ [] hw,List.nil_append,J8]
 unfold Fo
 rw [List.length_map,En]
 obtain ⟨m,rfl⟩:∃m,n=m+1:=⟨n-1,by omega⟩
 obtain ⟨_,htk⟩:=RB hl hall (show 0<m+1 by omega)
 have hx:(GI 0 (AJ (FH (Bi l 64 0)) 0-QD l 0),true)∈DA l 0 (m+1):=by
  rw [DA,htk]
  exact List.mem_append_left _ (by unfold BO El;simp)
 have h1:=hw _ hx
 have hlen:1≤((DA l 0 (m+1)).flatMap (BR (Bh C1 S1) (Bh C2 S2))).length:=by
  obtain ⟨y,hy⟩:=Option.isSome_iff_exists.1 h1
  have hm:((GI 0 (AJ (FH (Bi l 64 0)) 0-QD l 0)).1,y)∈Bh C1 S1:=Ed hy
  have hg:=(Bb t1).long _ hm
  have h3:1≤(BR (Bh C1 S1) (Bh C2 S2) (GI 0 (AJ (FH (Bi l 64 0)) 0-QD l 0),true)).length:=by
   unfold BR
   dsimp only
   rw [if_pos rfl,Wr (Bb t1) hm,List.length_append,Ao]
   dsimp only at hg⊢
   omega
  rw [DA,htk,List.flatMap_append,List.length_append]
  unfold BO El
  rw [List.flatMap_cons,List.length_append]
  omega
 dsimp only
 omega
noncomputable def mR(C1 S1 C2 S2:List Int)(ps:List (List Int))(z:Int):Int×List Int:=match ps with
 | []=>(5,[])
 | p::_=>E5 C1 S1 C2 S2 p z
def BL(n:Nat):List Int:=List.replicate (n*64) 0
noncomputable def Le(C1 S1 C2 S2:List Int):List (Nat×Nat)→List (List Int)→Nat→List Int×List Int
 | [],_,_=>([],[])
 | x::L,ps,k=>((if (mR C1 S1 C2 S2 ps ((x.2-x.1:Nat):Int)).1=0 then (mR C1 S1 C2 S2 ps ((x.2-x.1:Nat):Int)).2 else BL (x.2-x.1))++(Le C1 S1 C2 S2 L ps.tail (k+1)).1,
    (if (mR C1 S1 C2 S2 ps ((x.2-x.1:Nat):Int)).1=0 then [] else [(k:Int)])++(Le C1 S1 C2 S2 L ps.tail (k+1)).2)
def ME(w0:World)(E:Int)(B bad:List Int)(e:Ending)(w:World):Prop:=
 ∃ao co m ab cb mb,B.length=m*64∧bad.length=mb∧e= .returned (.tuple #[.slice ao m co, .slice ab mb cb, .int .i64 E])∧St w0 w [own 26 64 ao m co (B.map (Value.int .i64)),own 3 1 ab mb cb (bad.map (Value.int .i64))]
noncomputable def SS(C1 S1 C2 S2 b:List Int)(n every:Int):Int×List Int×List Int:=if Lg C1 S1 C2 S2 b n every=0 then match Df b [] [] [] with
 | none=>(4,[],[])
 | some y=>(0,Le C1 S1 C2 S2 (A5 n.toNat every.toNat) y.1 0)
 else (Lg C1 S1 C2 S2 b n every,[],[])
theorem Ni(w0:World)(C1 C2 S1 S2:List Int)(a1 a2:Option Addr)(n1 n2 k1 k2:Nat)(hC1:Al C1 16)(hC2:Al C2 16)(hs1:Sl w0 1 (.slice a1 n1 k1) n1 (S1.map (Value.int .i64)))(hs2:Sl w0 1 (.slice a2 n2 k2) n2 (S2.map (Value.int .i64)))(hn1:n1≤9223372036854775807)(hn2:n2≤9223372036854775807)(ad:Option Addr)(nb c:Nat)(b:List Int)(n every:Int)
 (hb:nb≤1000000000) (hv:Sl w0 1 (.slice ad nb c) nb (b.map (Value.int .u8))) (hx:∀x∈b,0≤x∧x<256) (hml:∃m,w0.cell? ⟨0,0,none⟩=some (.int .i64 m)):
 Calls Tryz.prog 57 #[.agg (AF [.ints C1, .val (.slice a1 n1 k1), .ints C2, .val (.slice a2 n2 k2)]).toArray, .slice ad nb c, .int .i64 n, .int .i64 every] w0 (ME w0 (SS C1 S1 C2 S2 b n every).1 (SS C1 S1 C2 S2 b n every).2.1 (SS C1 S1 C2 S2 b n every).2.2):=by
 have hS:=St.start w0
 have HX:=AD hx
 have HML:=AD hml
 have hbl:b.length=nb:=by have:=hv.1;simpa using this
 clear hx hml
 by_cases hP:Lg C1 S1 C2 S2 b n every=0
 case neg=>
  obtain ⟨E,hE⟩:∃E,Lg C1 S1 C2 S2 b n every=E:=⟨_,rfl⟩
  have h0:E≠0:=by rw [←hE];exact hP
  have HE:=AD hE
  have HW:=AD (show SS C1 S1 C2 S2 b n every=(E,[],[]) by unfold SS;rw [if_neg hP,hE])
  clear hP hE
  go_enter Tryz.func57,Tryz.ntmps57
  repeat' (first
   | (refine AQ 26 ?_);refine AM (f:=84) Tryz.call84 AA ?_;refine ⟨_,(FV _ C1 C2 S1 S2 a1 a2 n1 n2 k1 k2 hC1 hC2 (hs1.ext hS.1) (hs2.ext hS.1) hn1 hn2 ad nb c b n every hb (hv.ext hS.1) HX.out),?_⟩;rintro e w ⟨hq,_⟩;rw [HE.out] at hq;obtain ⟨rfl,hE2⟩:=hq h0;clear hq;replace hS:=hS.ext hE2;clear hE2;refine Ac ?_;go_step|refine X0 ?_|refine X6 ?_|refine X4 ?_|refine OI 4 ?_;clear hS;intro g4 w hS|refine P0 ?_|refine AG ?_;go_step|fail)
  all_goals (try exact AR)
  refine AK (xs:=[_,_,_]) rfl (.cons (AC.tmp rfl) (.cons (AC.tmp rfl) (.cons (AC.tmp rfl) (.nil)))) (by simp) rfl ?_
  exact ⟨none,0,0,none,0,0,by rw [HW.out];rfl,by rw [HW.out];rfl,by rw [HW.out];rfl,by rw [HW.out];exact ((St.of_ext hS.1).nil _ _).nil _ _⟩
 obtain ⟨hok,htb,⟨ps,ms⟩,hsp⟩:=Ky hP
 unfold IP at hok
 obtain ⟨N,rfl⟩:∃N:Nat,n=(N:Int):=⟨n.toNat,by omega⟩
 obtain ⟨Ev,rfl⟩:∃N:Nat,every=(N:Int):=⟨every.toNat,by omega⟩
 obtain ⟨M,hM⟩:∃M,(A5 N Ev).length=M:=⟨_,rfl⟩
 have hM4:M≤401:=by rw [←hM];have:=Gi N Ev;omega
 have HM:=AD hM
 have hin:=LA b.length b [] [] [] _ ms (Nat.le_refl _) hsp HX.out (fun q hq=>(by cases hq)) (fun x hx=>(by cases hx)) nb (by simp;omega) (fun q hq=>(by cases hq))
 have HIN:=AD hin
 obtain ⟨⟨DB,Dm⟩,hD⟩:∃D,Le C1 S1 C2 S2 (A5 N Ev) ps 0=D:=⟨_,rfl⟩
 have HSC:=AD (show SS C1 S1 C2 S2 b N Ev=(0,DB,Dm) by
  unfold SS;rw [if_pos hP,hsp];dsimp only;rw [Int.toNat_natCast,Int.toNat_natCast,hD])
 have HD:=AD hD
 have HP:=AD hP
 have HSP:=AD hsp
 obtain ⟨lp,hlp⟩:∃x,ps.length=x:=⟨_,rfl⟩
 have HLP:=AD hlp
 clear hin hD hbl hP hsp hM htb hlp
 go_enter Tryz.func57,Tryz.ntmps57
 repeat' (first
  | (refine AQ 26 ?_);refine AM (f:=84) Tryz.call84 AA ?_;refine ⟨_,(FV _ C1 C2 S1 S2 a1 a2 n1 n2 k1 k2 hC1 hC2 (hs1.ext hS.1) (hs2.ext hS.1) hn1 hn2 ad nb c b (N:Int) (Ev:Int) hb (hv.ext hS.1) HX.out),?_⟩;rintro e w ⟨_,hq⟩;obtain ⟨pcs,ao,am,co,cm,lo,lm,hlo,hlm,hpc,rfl,hS2⟩:=hq HP.out _ _ HSP.out;clear hq;obtain rfl:lp=lo:=(by rw [hlo];exact HLP.out.symm);have HPC:=AD hpc;clear hlo hlm hpc;replace hS:=hS.call hS2;dsimp only [List.cons_append,List.nil_append] at hS;clear hS2;refine Ac ?_;go_step|refine X0 ?_|refine X6 ?_|refine X4 ?_|refine OI 4 ?_;clear hS;intro g4 w hS|refine P0 ?_|refine AG ?_;go_step|fail)
 all_goals (try exact AR)
 repeat' (first
  | (refine AQ 35 ?_);refine AM (f:=50) Tryz.call50 AA ?_;refine ⟨_,(EI _ N Ev (by omega) (by omega)),?_⟩;rintro e w ⟨a3,c3,m3,hm3,rfl,hS2⟩;obtain rfl:M=m3:=(by rw [←hm3];exact HM.out.symm);clear hm3;replace hS:=hS.call1 hS2;clear hS2;refine Ac ?_;go_step|refine X1 ?_|refine cx ?_|refine AG ?_;go_step|fail)
 replace hS:=(hS.nilk 26 64 .i64).nilk 3 1 .i64
 go_loopg [14,15,37] M (fun gk ov bv_ kv w=>∃(k q mb:Nat) (acc bad:List Int) (ao2 ab2:Option Addr) (co2 cb2:Nat),gk+k=M∧kv= .int .i64 k∧ov= .slice ao2 q co2∧bv_= .slice ab2 mb cb2∧q≤400*k∧mb≤k∧Hid (acc.length=q*64)∧Hid (bad.length=mb)∧CV (DB=acc++(Le C1 S1 C2 S2 ((A5 N Ev).drop k) (ps.drop k) k).1∧Dm=bad++(Le C1 S1 C2 S2 ((A5 N Ev).drop k) (ps.drop k) k).2)∧St w0 w [own 26 64 ao2 q co2 (acc.map (Value.int .i64)),own 3 1 ab2 mb cb2 (bad.map (Value.int .i64)),prt g4 [.ints C1, .val (.slice a1 n1 k1), .ints C2, .val (.slice a2 n2 k2)],own 35 1 ao lp co (pcs.map Pc.val),star (pcs.map Pc.res),own 94 2 a3 M c3 ((OC (A5 N Ev)).map (Value.int .i64))])
 case atStart=>exact ⟨0,0,0,[],[],none,none,0,0,by omega,rfl,rfl,rfl,by omega,by omega,AD rfl,AD rfl,⟨by rw [List.drop_zero,List.drop_zero,HD.out];exact ⟨rfl,rfl⟩⟩,hS.sub AV⟩
 case round=>
  clear hS
  obtain ⟨k,q,mb,acc,bad,ao2,ab2,co2,cb2,hk,rfl,rfl,rfl,hq4,hmb,HQ,HB,HV,hS⟩:=hrel
  by_cases hlt:k<M
  ·obtain ⟨⟨f,t⟩,hx⟩:∃x,(A5 N Ev)[k]? =some x:=⟨_,List.getElem?_eq_getElem (by rw [HM.out];exact hlt)⟩
   have hft:=D5 N Ev _ (List.mem_of_getElem? hx)
   dsimp only at hft
   have hseg:=IV (A5 N Ev) k _ hx
   dsimp only at hseg
   have hd1:(A5 N Ev).drop k=(f,t)::(A5 N Ev).drop (k+1):=by
    rw [List.drop_eq_getElem_cons (by rw [HM.out];exact hlt)]
    rw [List.getElem?_eq_getElem (by rw [HM.out];exact hlt)] at hx
    rw [Option.some.inj hx]
   obtain ⟨⟨E,B⟩,hR⟩:∃R,mR C1 S1 C2 S2 (ps.drop k) ((t-f:Nat):Int)=R:=⟨_,rfl⟩
   have hstep:CV (Le C1 S1 C2 S2 ((A5 N Ev).drop k) (ps.drop k) k=((if E=0 then B else BL (t-f))++(Le C1 S1 C2 S2 ((A5 N Ev).drop (k+1)) (ps.drop (k+1)) (k+1)).1,(if E=0 then [] else [(k:Int)])++(Le C1 S1 C2 S2 ((A5 N Ev).drop (k+1)) (ps.drop (k+1)) (k+1)).2)):=⟨by rw [hd1,Le];simp only [hR,List.tail_drop]⟩
   obtain ⟨g3,rfl⟩:=Ba (a:=a3) hS AL (by omega)
   clear hx hd1
   by_cases hp:k<lp
   ·obtain ⟨⟨pa,pcc,px⟩,hpx⟩:∃x,pcs[k]? =some x:=⟨_,List.getElem?_eq_getElem (by have:=congrArg List.length HPC.out;rw [List.length_map,HLP.out] at this;omega)⟩
    have hmem:(⟨pa,pcc,px⟩:Pc)∈pcs:=List.mem_of_getElem? hpx
    have hpin:=HIN.out px (by rw [←HPC.out];exact List.mem_map.2 ⟨_,hmem,rfl⟩)
    have hpl:px.length≤nb:=hpin.2
    have HPR:=AD hpin.1
    have hpv:(pcs.map Pc.val)[k]? =some (.slice pa px.length pcc):=by rw [List.getElem?_map,hpx];rfl
    have hpk:ps[k]? =some px:=by rw [←HPC.out,List.getElem?_map,hpx];rfl
    have hd2:ps.drop k=px::ps.drop (k+1):=by
     rw [List.drop_eq_getElem_cons (by rw [HLP.out];exact hp)]
     rw [List.getElem?_eq_getElem (by rw [HLP.out];exact hp)] at hpk
     rw [Option.some.inj hpk]
    rw [hd2,mR] at hR
    have HBL:CV (E=0→B.length=(t-f)*64):=⟨fun h=>by
     obtain ⟨n',e1,e2,e3⟩:=IU (C1:=C1) (S1:=S1) (C2:=C2) (S2:=S2) (b:=px) (z:=((t-f:Nat):Int)) (by rw [hR];exact h)
     rw [hR] at e3
     have:n'=t-f:=by omega
     rw [←this];exact e3⟩
    have HR:=AD hR
    have HMEM:=AD hmem
    obtain ⟨g1,rfl⟩:=Ba (a:=ao) hS AL (by omega)
    clear hpx hpin hd2 hR hmem hpk
    repeat' (first
     | (refine AQ 46 ?_);(refine Ag (.int _ (((t-f:Nat):Int))) (V.as (V.subI rfl rfl (by omega)) (by omega)) (by kernel_rfl) ?_;go_step)|refine X0 ?_|refine X2 ?_|refine S8 40 ?_|refine aZ ?_|refine aY ?_|refine Xl ?_|refine dB ?_|refine ch 17 ?_;clear hS;intro g17 w hS|refine ct ?_;clear hS;intro w hS|refine X9 ?_|refine Xd 47 ?_;clear hS;intro g47 w hS|refine AG ?_;go_step|fail)
    all_goals (try exact AR)
    replace hS:St w0 w [own 26 64 (some ⟨g47,0,none⟩) (t-f) (t-f) ((BL (t-f)).map (Value.int .i64)),blk g17 [.int .i64 (f:Nat), .int .i64 (t:Nat)],own 26 64 ao2 q co2 (acc.map (Value.int .i64)),own 3 1 ab2 mb cb2 (bad.map (Value.int .i64)),prt g4 [.ints C1, .val (.slice a1 n1 k1), .ints C2, .val (.slice a2 n2 k2)],own 35 1 (some ⟨g1,0,none⟩) lp co (pcs.map Pc.val),star (pcs.map Pc.res),own 94 2 (some ⟨g3,0,none⟩) M c3 ((OC (A5 N Ev)).map (Value.int .i64))]:=hS
    refine AP [7] (fun w=>St w0 w [prt g4 [.ints C1, .val (.slice a1 n1 k1), .ints C2, .val (.slice a2 n2 k2)],own 35 1 (some ⟨g1,0,none⟩) lp co (pcs.map Pc.val)]) AA ?_
    replace hS:=hS.drew
    focus
     refine Zs 0 [7,8,9,10,11,12] ?_
     refine AZ 1 ?_
     refine AZ 2 ?_
     refine BZ 3 BN (V.indexSl Tryz.underlying88 SB rfl rfl A9 (by omega) (Nat.mul_one _) A7) ?_;go_step
     refine fW 4 [7,8,9,10,11,12] ?_
     refine AZ 5 ?_
     refine BZ 6 BN (V.len Tryz.underlying42 rfl) ?_;go_step
     refine Av 7 ?_
     refine AY (f:=51) rfl Tryz.call51 (Gy _ C1 C2 S1 S2 a1 a2 n1 n2 k1 k2 hC1 hC2 (hs1.ext hS.1) (hs2.ext hS.1) hn1 hn2 pa px.length pcc px _ (by omega) (J5 hS AL HMEM.out) (SL hS AL HMEM.out) HPR.out (HML.out.imp fun m h=>hS.1.cell h) _ HR.out) ?_;rintro e w ⟨al,cl,ml,hml,rfl,hS2⟩;have HMM:=AD hml;dsimp only at hS2⊢;replace hS:=hS.call1 hS2;clear hS2 hml;refine ⟨_,rfl,?_⟩
     refine ⟨fun h=>absurd (by decide) h,?_⟩
     refine AI ?_
     go_step
     refine AZ 8 ?_
     refine Y2 9 ?_
     refine Y2 10 ?_
     refine AZ 11 ?_
     refine AZ 12 ?_
     refine AE AA ?_ _
    all_goals
     repeat' (first|(refine AG ?_;go_step)|fail)
     by_cases hE0:E=0
     case neg=>
      have HV2:CV (DB=(acc++BL (t-f))++(Le C1 S1 C2 S2 ((A5 N Ev).drop (k+1)) (ps.drop (k+1)) (k+1)).1∧Dm=(bad++[(k:Int)])++(Le C1 S1 C2 S2 ((A5 N Ev).drop (k+1)) (ps.drop (k+1)) (k+1)).2):=⟨by rw [HV.out.1,HV.out.2,hstep.out,if_neg hE0,if_neg hE0,List.append_assoc,List.append_assoc];exact ⟨rfl,rfl⟩⟩
      have hz0:(BL (t-f)).length=(t-f)*64:=List.length_replicate
      have HZ:=AD hz0
      clear HV hstep HBL hz0
      repeat' (first
       | refine X1 ?_|refine cw ?_|refine AG ?_;go_step|fail)
      all_goals (try exact AR)
      repeat' (first
       | refine X0 ?_|refine X7 ?_|refine Xb 68 ?_;clear hS;intro g68 w hS|refine Xj 69 ?_;clear hS;intro ad69 c69 w hS|refine cu 72 ?_;clear hS;intro ad72 c72 w hS|refine AG ?_;go_step|fail)
      go_roundg (gk-1)
      case measure=>omega
      case rel=>exact ⟨k+1,q+(t-f),mb+1,acc++BL (t-f),bad++[(k:Int)],_,_,_,_,by omega,by go_num,rfl,rfl,by omega,by omega,AD (by rw [List.length_append,HQ.out,HZ.out];omega),AD (by rw [List.length_append,HB.out];rfl),HV2,hS.sub AV⟩
     have hbl:=HBL.out hE0
     have HV2:CV (DB=(acc++B)++(Le C1 S1 C2 S2 ((A5 N Ev).drop (k+1)) (ps.drop (k+1)) (k+1)).1∧Dm=bad++(Le C1 S1 C2 S2 ((A5 N Ev).drop (k+1)) (ps.drop (k+1)) (k+1)).2):=⟨by rw [HV.out.1,HV.out.2,hstep.out,if_pos hE0,if_pos hE0,List.append_assoc,List.nil_append];exact ⟨rfl,rfl⟩⟩
     have hml2:ml=t-f:=by have h9:B.length=ml*64:=HMM.out;omega
     clear HV hstep HBL
     subst hE0
     repeat' (first
      | refine X0 ?_|refine cw ?_|refine AG ?_;go_step|fail)
     all_goals (try exact AR)
     repeat' (first
      | refine X0 ?_|refine X7 ?_|refine cu 72 ?_;clear hS;intro ad72 c72 w hS|refine AG ?_;go_step|fail)
     go_roundg (gk-1)
     case measure=>omega
     case rel=>exact ⟨k+1,q+ml,mb,acc++B,bad,_,_,_,_,by omega,by go_num,rfl,rfl,by omega,by omega,AD (by rw [List.length_append,HQ.out,HMM.out];omega),HB,HV2,hS.sub AV⟩
   have hd2:ps.drop k=[]:=List.drop_of_length_le (by rw [HLP.out];omega)
   rw [hd2,mR] at hR
   have hE5:E=5:=(congrArg Prod.fst hR).symm
   have HV2:CV (DB=(acc++BL (t-f))++(Le C1 S1 C2 S2 ((A5 N Ev).drop (k+1)) (ps.drop (k+1)) (k+1)).1∧Dm=(bad++[(k:Int)])++(Le C1 S1 C2 S2 ((A5 N Ev).drop (k+1)) (ps.drop (k+1)) (k+1)).2):=⟨by rw [HV.out.1,HV.out.2,hstep.out,if_neg (by omega),if_neg (by omega),List.append_assoc,List.append_assoc];exact ⟨rfl,rfl⟩⟩
   have hz0:(BL (t-f)).length=(t-f)*64:=List.length_replicate
   have HZ:=AD hz0
   clear HV hstep hz0 hd2 hR
   repeat' (first
    | (refine AQ 46 ?_);(refine Ag (.int _ (((t-f:Nat):Int))) (V.as (V.subI rfl rfl (by omega)) (by omega)) (by kernel_rfl) ?_;go_step)|refine X0 ?_|refine X2 ?_|refine S8 40 ?_|refine aZ ?_|refine aY ?_|refine Xl ?_|refine dB ?_|refine ch 17 ?_;clear hS;intro g17 w hS|refine ct ?_;clear hS;intro w hS|refine X9 ?_|refine Xd 47 ?_;clear hS;intro g47 w hS|refine AG ?_;go_step|fail)
   all_goals (try exact AR)
   replace hS:St w0 w [own 26 64 (some ⟨g47,0,none⟩) (t-f) (t-f) ((BL (t-f)).map (Value.int .i64)),blk g17 [.int .i64 (f:Nat), .int .i64 (t:Nat)],own 26 64 ao2 q co2 (acc.map (Value.int .i64)),own 3 1 ab2 mb cb2 (bad.map (Value.int .i64)),prt g4 [.ints C1, .val (.slice a1 n1 k1), .ints C2, .val (.slice a2 n2 k2)],own 35 1 ao lp co (pcs.map Pc.val),star (pcs.map Pc.res),own 94 2 (some ⟨g3,0,none⟩) M c3 ((OC (A5 N Ev)).map (Value.int .i64))]:=hS
   repeat' (first
    | refine X1 ?_|refine cw ?_|refine AG ?_;go_step|fail)
   all_goals (try exact AR)
   repeat' (first
    | refine X0 ?_|refine X7 ?_|refine Xb 68 ?_;clear hS;intro g68 w hS|refine Xj 69 ?_;clear hS;intro ad69 c69 w hS|refine cu 72 ?_;clear hS;intro ad72 c72 w hS|refine AG ?_;go_step|fail)
   go_roundg (gk-1)
   case measure=>omega
   case rel=>exact ⟨k+1,q+(t-f),mb+1,acc++BL (t-f),bad++[(k:Int)],_,_,_,_,by omega,by go_num,rfl,rfl,by omega,by omega,AD (by rw [List.length_append,HQ.out,HZ.out];omega),AD (by rw [List.length_append,HB.out];rfl),HV2,hS.sub AV⟩
  obtain rfl:k=M:=by omega
  have hV:CV (DB=acc∧Dm=bad):=⟨by rw [HV.out.1,HV.out.2,List.drop_of_length_le (by rw [HM.out];omega),Le];simp⟩
  clear HV
  repeat' (first
   | refine X0 ?_|refine X2 ?_|refine AG ?_;go_step|fail)
  all_goals (try exact AR)
  repeat' (first
   | refine AG ?_;go_step|fail)
  refine AK (xs:=[_,_,_]) rfl (.cons (AC.tmp rfl) (.cons (AC.tmp rfl) (.cons (AC.tmp rfl) (.nil)))) (by simp) rfl ?_
  exact ⟨ao2,co2,q,ab2,cb2,mb,by rw [HSC.out];dsimp only;rw [hV.out.1];exact HQ.out,by rw [HSC.out];dsimp only;rw [hV.out.2];exact HB.out,by rw [HSC.out];rfl,by rw [HSC.out];dsimp only;rw [hV.out.1,hV.out.2];exact hS.sub AV⟩
theorem Ho{C1 S1 C2 S2 l:List Int}{n:Nat}(h:Cg C1 S1 C2 S2 l n=0):D4 C1 S1 C2 S2=0∧BX l n=0∧Aw l n=true∧Ef (Bh C1 S1) (Bh C2 S2) (DA l 0 n):=by
 have ht:D4 C1 S1 C2 S2=0:=by
  unfold Cg at h
  by_cases h1:D4 C1 S1 C2 S2=0
  ·exact h1
  rw [if_neg h1] at h;exact absurd h h1
 have hb:BX l n=0:=by
  unfold Cg at h
  rw [if_pos ht] at h
  by_cases h1:BX l n=0
  ·exact h1
  rw [if_neg h1] at h;exact absurd h h1
 refine ⟨ht,hb,?_,?_⟩
 ·unfold BX at hb
  split at hb
  ·cases hb
  cases h1:Aw l n
  ·rw [h1] at hb;cases hb
  rfl
 by_cases h1:Ef (Bh C1 S1) (Bh C2 S2) (DA l 0 n)
 ·exact h1
 have:=NB (Bh C1 S1) (Bh C2 S2) _ [] h1
 unfold Cg at h
 rw [if_pos ht,if_pos hb,this] at h
 cases h
theorem SV{C1 S1 C2 S2 l:List Int}{n:Nat}(ht:D4 C1 S1 C2 S2=0)(hb:BX l n=0)(hw:Ef (Bh C1 S1) (Bh C2 S2) (DA l 0 n)):Cg C1 S1 C2 S2 l n=0:=by
 unfold Cg
 rw [if_pos ht,if_pos hb,GU _ _ _ [] hw]
theorem PV{C1 S1 C2 S2 l:List Int}{n:Nat}(ht:D4 C1 S1 C2 S2=0)(hb:BX l n=0)(hw:¬Ef (Bh C1 S1) (Bh C2 S2) (DA l 0 n)):Cg C1 S1 C2 S2 l n=5:=by
 unfold Cg
 rw [if_pos ht,if_pos hb,NB _ _ _ [] hw]
theorem MY{C1 S1 C2 S2 l:List Int}{n:Nat}(hl:l.length=n*64)(h0:Cg C1 S1 C2 S2 l n=0):E5 C1 S1 C2 S2 (C6 C1 S1 C2 S2 l n) (n:Int)=(0,l):=by
 obtain ⟨ht,hb,hall,hw⟩:=Ho h0
 obtain ⟨t1,t2⟩:=GH ht
 have hbk:=VB (Bb t1) (Bb t2) hl hall hw
 have hsb:C6 C1 S1 C2 S2 l n=Dg (Fo (bytesOf ((DA l 0 n).flatMap (BR (Bh C1 S1) (Bh C2 S2))))):=by
  unfold C6 Bm
  rw [if_pos h0,GU _ _ _ [] hw,List.nil_append]
 have hn:=H9 hb
 unfold E5
 rw [if_pos ht,if_pos (by omega),hsb,YV (EO _)]
 dsimp only
 rw [Int.toNat_natCast]
 exact hbk
theorem T0{C1 S1 C2 S2:List Int}{n:Nat}(hn:0<n):(E5 C1 S1 C2 S2 [] (n:Int)).1≠0:=by
 intro h
 obtain ⟨n',e1,e2,e3,e4,e5⟩:=K7 h
 obtain rfl:n=n':=by omega
 obtain ⟨ht,hb,hall,hw⟩:=Ho e4
 have:=WQ e3 hn e4 ht hb hw
 rw [e5] at this
 simp at this
def In:List (List Int)→Nat→List Int
 | [],_=>[]
 | p::ps,k=>(if k=0 then [] else [255,((208+(k-1)%8:Nat):Int)])++(p++In ps (k+1))
noncomputable def EE(C1 S1 C2 S2 l:List Int)(L:List (Nat×Nat)):List (List Int):=L.map fun x=>C6 C1 S1 C2 S2 (Ap l x.1 x.2) (x.2-x.1)
theorem VL(C1 S1 C2 S2 l:List Int):∀(L:List (Nat×Nat))(k:Nat),(∀x∈L,Cg C1 S1 C2 S2 (Ap l x.1 x.2) (x.2-x.1)=0)→GV C1 S1 C2 S2 l L k=(0,In (EE C1 S1 C2 S2 l L) k)
 | [],k,_=>rfl
 | x::L,k,h=>by
   have h1:=h x (by simp)
   have ih:=VL C1 S1 C2 S2 l L (k+1) (fun y hy=>h y (by simp [hy]))
   rw [GV,if_neg (by rw [h1];decide),ih]
   rfl
def NR(k n:Nat):List Int:=(List.range n).map fun i=>((208+(k+i)%8:Nat):Int)
theorem Vq(k n:Nat):NR k (n+1)=((208+k%8:Nat):Int)::NR (k+1) n:=by
 unfold NR
 rw [List.range_succ_eq_map,List.map_cons,List.map_map]
 congr 1
 refine List.map_congr_left fun i _=>?_
 simp only [Function.comp_apply]
 rw [show k+(i+1)=k+1+i by omega]
theorem LB:∀(c:List Int)(o:List (List Int))(ms p r:List Int)(m:Int),m≠0→m≠255→Df (Dg c++255::m::r) o ms p=Df r (o++[p++Dg c]) (ms++[m]) []
 | [],o,ms,p,r,m,h0,h1=>by
   rw [J9,List.nil_append,List.append_nil,Df.eq_def]
   simp only [if_true]
   rw [if_neg h1,if_neg h0]
 | x::c,o,ms,p,r,m,h0,h1=>by
   rw [Dy]
   by_cases h:x=255
   ·subst h
    rw [if_pos rfl,Df.eq_def]
    simp only [List.cons_append,List.nil_append,if_true]
    rw [if_neg (by decide),LB c _ _ _ _ _ h0 h1]
    simp
   rw [if_neg h,Df.eq_def]
   simp only [List.cons_append,List.nil_append]
   rw [if_neg h,LB c _ _ _ _ _ h0 h1]
   simp
theorem We:∀(ps:List (List Int))(p:List Int)(k:Nat)(o:List (List Int))(ms:List Int),(∃c,p=Dg c)→(∀q∈ps,∃c,q=Dg c)→Df (p++In ps (k+1)) o ms []=some (o++p::ps,ms++NR k ps.length)
 | [],p,k,o,ms,⟨c,hc⟩,_=>by
   rw [In,List.append_nil,hc,IY]
   simp [NR]
 | q::ps,p,k,o,ms,⟨c,hc⟩,h=>by
   have e:p++In (q::ps) (k+1)=Dg c++255::((208+k%8:Nat):Int)::(q++In ps (k+1+1)):=by
    rw [In,if_neg (by omega),hc,Nat.add_sub_cancel]
    simp
   rw [e,LB _ _ _ _ _ _ (by omega) (by omega),We ps q (k+1) _ _ (h q (by simp)) (fun x hx=>h x (by simp [hx])),List.length_cons,Vq,List.nil_append,←hc]
   simp
theorem SX{ps:List (List Int)}(h:∀q∈ps,∃c,q=Dg c)(h0:ps≠[]):Df (In ps 0) [] [] []=some (ps,NR 0 (ps.length-1)):=by
 cases ps with
 | nil=>exact absurd rfl h0
 | cons p ps=>
   rw [In,if_pos rfl,List.nil_append,We ps p 0 [] [] (h p (by simp)) (fun x hx=>h x (by simp [hx]))]
   simp
theorem NS{k n i:Nat}(h:i<n):AJ (NR k n) i=((208+(k+i)%8:Nat):Int):=by
 unfold NR AJ List.getD
 rw [List.getElem?_map,List.getElem?_range h];rfl
theorem cB(n:Nat):I2 (NR 0 n) (NR 0 n).length=true:=by
 have hl:(NR 0 n).length=n:=by simp [NR]
 unfold I2
 rw [List.all_eq_true,hl]
 intro k hk
 have hk:=List.mem_range.1 hk
 rw [NS hk,Nat.zero_add]
 simp
theorem Q4(n every:Nat):A5 n every≠[]:=by
 unfold A5
 by_cases h:every=0∨n=0
 ·rw [if_pos h];simp
 rw [if_neg h]
 obtain ⟨m,rfl⟩:∃m,n=m+1:=⟨n-1,by omega⟩
 rw [Cm,if_pos (by omega)]
 simp
theorem CE{l:List Int}{n f t:Nat}(hl:l.length=n*64)(hft:f≤t)(ht:t≤n):(Ap l f t).length=(t-f)*64:=by
 unfold Ap
 rw [List.length_take,List.length_drop,hl]
 have h1:(t-f)*64≤n*64-f*64:=by rw [←Nat.sub_mul];exact Nat.mul_le_mul_right 64 (by omega)
 omega
theorem OZ{l:List Int}{n f t:Nat}(hl:l.length=n*64)(hft:f≤t)(ht:t≤n):Ap l f t++l.drop (t*64)=l.drop (f*64):=by
 have h1:t*64=f*64+(t-f)*64:=by omega
 unfold Ap
 rw [h1,←List.drop_drop,List.take_append_drop]
theorem LC{l:List Int}{n every:Nat}(hl:l.length=n*64)(he:0<every):∀(f a:Nat),n≤a+f*every→a≤n∨n≤a→(Cm n every f a).flatMap (fun x=>Ap l x.1 x.2)=l.drop (a*64)
 | 0,a,h,_=>by
   rw [Cm,List.drop_of_length_le (by rw [hl];omega)];rfl
 | f+1,a,h,_=>by
   rw [Cm]
   by_cases h0:a<n
   ·rw [if_pos h0,List.flatMap_cons]
    by_cases h1:a+every≤n
    ·rw [Nat.min_eq_left h1,LC hl he f (a+every) (by rw [Nat.add_mul,Nat.one_mul] at h;omega) (by omega)]
     exact OZ hl (by omega) h1
    rw [Nat.min_eq_right (by omega),LC hl he f (a+every) (by rw [Nat.add_mul,Nat.one_mul] at h;omega) (by omega),List.drop_of_length_le (i:=(a+every)*64) (by rw [hl];omega)]
    have:=OZ hl (f:=a) (t:=n) (by omega) (Nat.le_refl _)
    rw [List.drop_of_length_le (i:=n*64) (by omega)] at this
    exact this
   rw [if_neg h0,List.drop_of_length_le (by rw [hl];omega)];rfl
theorem SZ{l:List Int}{n:Nat}(every:Nat)(hl:l.length=n*64):(A5 n every).flatMap (fun x=>Ap l x.1 x.2)=l:=by
 unfold A5
 by_cases h:every=0∨n=0
 ·rw [if_pos h]
  simp [T4 hl]
 rw [if_neg h,LC hl (by omega) n 0 (by have:=Nat.le_mul_of_pos_right n (show 0<every by omega);omega) (by omega)]
 simp
theorem WO(C1 S1 C2 S2 l:List Int){n:Nat}(hl:l.length=n*64):∀(L:List (Nat×Nat)),(∀x∈L,x.1≤x.2∧x.2≤n)→(∀x∈L,Cg C1 S1 C2 S2 (Ap l x.1 x.2) (x.2-x.1)=0)→L8 C1 S1 C2 S2 L (EE C1 S1 C2 S2 l L)=(0,L.flatMap fun x=>Ap l x.1 x.2)
 | [],_,_=>rfl
 | x::L,h1,h2=>by
   have ih:=WO C1 S1 C2 S2 l hl L (fun y hy=>h1 y (by simp [hy])) (fun y hy=>h2 y (by simp [hy]))
   obtain ⟨a1,a2⟩:=h1 x (by simp)
   have hb:=MY (CE hl a1 a2) (h2 x (by simp))
   have e:EE C1 S1 C2 S2 l (x::L)=C6 C1 S1 C2 S2 (Ap l x.1 x.2) (x.2-x.1)::EE C1 S1 C2 S2 l L:=rfl
   rw [e,L8,List.headD_cons,List.tail_cons,hb,ih]
   rw [if_neg (by simp)]
   rfl
theorem PM{C1 S1 C2 S2 l:List Int}{L:List (Nat×Nat)}(h2:∀x∈L,Cg C1 S1 C2 S2 (Ap l x.1 x.2) (x.2-x.1)=0):∀q∈EE C1 S1 C2 S2 l L,∃c,q=Dg c:=by
 intro q hq
 obtain ⟨x,hx,rfl⟩:=List.mem_map.1 hq
 exact ⟨Fo (bytesOf (Bm C1 S1 C2 S2 (Ap l x.1 x.2) (x.2-x.1))),by unfold C6;rw [if_pos (h2 x hx)]⟩
def GE(C1 S1 C2 S2 l:List Int)(n every:Nat):Prop:=∀x∈A5 n every,Cg C1 S1 C2 S2 (Ap l x.1 x.2) (x.2-x.1)=0
theorem ZF{C1 S1 C2 S2 l:List Int}{n every:Nat}(he:every≤100)(ht:D4 C1 S1 C2 S2=0)(hb:BX l n=0)(h:GE C1 S1 C2 S2 l n every):Fk C1 S1 C2 S2 l n every=(0,In (EE C1 S1 C2 S2 l (A5 n every)) 0):=by
 unfold Fk
 rw [if_pos (by omega),if_pos ht,if_pos hb,Int.toNat_natCast,VL _ _ _ _ _ _ _ h,if_pos rfl]
theorem WB{C1 S1 C2 S2 l:List Int}{n every:Nat}(h:GE C1 S1 C2 S2 l n every):Df (In (EE C1 S1 C2 S2 l (A5 n every)) 0) [] [] []=some (EE C1 S1 C2 S2 l (A5 n every),NR 0 ((A5 n every).length-1)):=by
 have h1:=SX (PM h) (by unfold EE;rw [Ne,List.map_eq_nil_iff];exact Q4 n every)
 rw [h1]
 unfold EE
 rw [List.length_map]
theorem WA{C1 S1 C2 S2 b:List Int}{n every:Nat}{y:List (List Int)×List Int}(he:every≤100)(hn:n≤400)(ht:D4 C1 S1 C2 S2=0)(h:Df b [] [] []=some y):Lg C1 S1 C2 S2 b n every=0:=by
 unfold Lg
 rw [if_pos (show IP (n:Int) (every:Int) by unfold IP;omega),if_pos ht]
 unfold cL
 rw [h]
theorem WN{C1 S1 C2 S2 l:List Int}{n every:Nat}(hl:l.length=n*64)(he:every≤100)(hn:n≤400)(ht:D4 C1 S1 C2 S2=0)(h:GE C1 S1 C2 S2 l n every):
 P2 C1 S1 C2 S2 (In (EE C1 S1 C2 S2 l (A5 n every)) 0) n every=(0,l):=by
 have hs:=WB h
 have hw:OE C1 S1 C2 S2 (In (EE C1 S1 C2 S2 l (A5 n every)) 0) n every=0:=by
  unfold OE
  rw [if_pos (WA he hn ht hs),hs]
  dsimp only
  rw [Int.toNat_natCast,Int.toNat_natCast,if_pos (by unfold EE;rw [List.length_map]),cB]
  rfl
 have hd:=WO C1 S1 C2 S2 l hl (A5 n every) (D5 n every) h
 unfold P2
 rw [if_pos hw,hs]
 dsimp only
 rw [Int.toNat_natCast,Int.toNat_natCast,hd,if_pos rfl,SZ every hl]
theorem Qq{F R C1 S1 C2 S2 l:List Int}{n:Nat}(hl:l.length=n*64)(h1:Mk (Cn F) 256 C1 S1)(h2:Mk (Cn R) 256 C2 S2)(hF:∀x∈P4 l n,x∈F)(hR:∀x∈LG l n,x∈R):Ef (Bh C1 S1) (Bh C2 S2) (DA l 0 n):=by
 intro x hx
 have hok:=(Id hl n 0 (by omega)).1 x hx
 obtain ⟨⟨r1,r2⟩,_⟩:=hok
 obtain ⟨k1,k2⟩:=cO l n x hx
 have key:∀(L:List Int),x.1.1∈L→x.1.1∈B7 (Cn L) 256:=fun L hL=>by
  rw [Bf]
  refine ⟨r1,by omega,?_⟩
  rw [D9 _ (by omega)]
  have h3:(((x.1.1.toNat:Nat)):Int)=x.1.1:=by omega
  rw [h3]
  have:=List.count_pos_iff.2 hL
  omega
 obtain ⟨t,b⟩:=x
 cases b
 ·show (symW (Bh C2 S2) t.1).isSome=true
  exact (Pe h2.ok _).2 ((h2.mem _).2 (key _ (hR _ (k2 rfl))))
 show (symW (Bh C1 S1) t.1).isSome=true
 exact (Pe h1.ok _).2 ((h1.mem _).2 (key _ (hF _ (k1 rfl))))
def T1(l:List Int)(L:List (Nat×Nat)):List Int:=L.flatMap fun x=>P4 (Ap l x.1 x.2) (x.2-x.1)
def Wb(l:List Int)(L:List (Nat×Nat)):List Int:=L.flatMap fun x=>LG (Ap l x.1 x.2) (x.2-x.1)
theorem Md{l:List Int}{f t k:Nat}(hk:k<t-f):Bi (Ap l f t) 64 k=Bi l 64 (f+k):=by
 unfold Ap
 rw [WT hk,GD]
theorem Eb{l:List Int}{n f t:Nat}(h:Aw l n=true)(hft:f≤t)(ht:t≤n):Aw (Ap l f t) (t-f)=true:=by
 unfold Aw
 rw [List.all_eq_true]
 intro k hk
 have hk:=List.mem_range.1 hk
 rw [Md hk]
 exact DZ h (by omega)
theorem GO{l:List Int}{n:Nat}(hn:n≤400)(h:Aw l n=true):BX l n=0:=by
 unfold BX
 rw [if_neg (by omega),if_pos h]
theorem JC{C1 S1 C2 S2 l:List Int}{n every:Nat}(hl:l.length=n*64)(hn:n≤400)(h:Aw l n=true)(h1:Mk (Cn (T1 l (A5 n every))) 256 C1 S1)(h2:Mk (Cn (Wb l (A5 n every))) 256 C2 S2):GE C1 S1 C2 S2 l n every:=by
 intro x hx
 obtain ⟨a1,a2⟩:=D5 n every x hx
 have ht:D4 C1 S1 C2 S2=0:=by unfold D4;rw [if_pos h1.ok];exact h2.ok
 exact SV ht (GO (by omega) (Eb h a1 a2)) (Qq (CE hl a1 a2) h1 h2 (fun y hy=>List.mem_flatMap.2 ⟨x,hx,hy⟩) (fun y hy=>List.mem_flatMap.2 ⟨x,hx,hy⟩))
theorem Vo(C1 S1 C2 S2 l:List Int){n:Nat}(hl:l.length=n*64)(hurt:Nat→Bool):∀(L:List (Nat×Nat))(k:Nat)(ps:List (List Int)),(∀x∈L,x.1<x.2∧x.2≤n)→(∀x∈L,Cg C1 S1 C2 S2 (Ap l x.1 x.2) (x.2-x.1)=0)→ps=(L.zipIdx k).map (fun y=>if hurt y.2 then [] else C6 C1 S1 C2 S2 (Ap l y.1.1 y.1.2) (y.1.2-y.1.1))→
 Le C1 S1 C2 S2 L ps k=((L.zipIdx k).flatMap (fun y=>if hurt y.2 then BL (y.1.2-y.1.1) else Ap l y.1.1 y.1.2),((L.zipIdx k).filter fun y=>hurt y.2).map fun y=>(y.2:Int))
 | [],k,ps,_,_,_=>rfl
 | x::L,k,ps,h1,h2,h3=>by
   obtain ⟨a1,a2⟩:=h1 x (by simp)
   rw [List.zipIdx_cons,List.map_cons] at h3
   subst h3
   have ih:=Vo C1 S1 C2 S2 l hl hurt L (k+1) _ (fun y hy=>h1 y (by simp [hy])) (fun y hy=>h2 y (by simp [hy])) rfl
   rw [Le,List.tail_cons,ih,List.zipIdx_cons]
   dsimp only
   by_cases hh:hurt k=true
   ·have hd:(E5 C1 S1 C2 S2 [] ((x.2-x.1:Nat):Int)).1≠0:=T0 (by omega)
    simp only [hh,if_true,mR]
    rw [if_neg hd,if_neg hd,List.flatMap_cons,List.filter_cons]
    simp [hh]
   have hh:hurt k=false:=by simpa using hh
   have hb:=MY (CE hl (Nat.le_of_lt a1) a2) (h2 x (by simp))
   simp only [hh,mR,Bool.false_eq_true,if_false]
   rw [hb,List.flatMap_cons,List.filter_cons]
   simp [hh]
def fD(x:List Int):List Int:=(Ht 0 ((FH x).drop 1)).map (·.1)
theorem Zb{l:List Int}{n k:Nat}(hl:l.length=n*64)(h:Aw l n=true)(hk:k<n):((UA l k).drop 1).map (·.1)=fD (Bi l 64 k):=by
 rw [(RB hl h hk).2]
 rfl
theorem Sc{l:List Int}{n:Nat}(hl:l.length=n*64)(h:Aw l n=true):LG l n=(List.range' 0 n).flatMap fun k=>fD (Bi l 64 k):=by
 unfold LG
 rw [List.range_eq_range',List.flatMap_def,List.flatMap_def]
 congr 1
 refine List.map_congr_left fun k hk=>?_
 exact Zb hl h (by have:=List.mem_range'_1.1 hk;omega)
theorem ZU{l:List Int}{n f t:Nat}(hl:l.length=n*64)(h:Aw l n=true)(hft:f≤t)(ht:t≤n):LG (Ap l f t) (t-f)=(List.range' f (t-f)).flatMap fun k=>fD (Bi l 64 k):=by
 rw [Sc (CE hl hft ht) (Eb h hft ht),List.flatMap_def,List.flatMap_def]
 congr 1
 have e:List.range' f (t-f)=(List.range' 0 (t-f)).map (f+ ·):=by rw [List.map_add_range'];rfl
 rw [e,List.map_map]
 refine List.map_congr_left fun k hk=>?_
 have hk:=List.mem_range'_1.1 hk
 simp only [Function.comp_apply]
 rw [Md (by omega)]
theorem LD(g:Nat→List Int){n every:Nat}(he:0<every):∀(f a:Nat),n≤a+f*every→(Cm n every f a).flatMap (fun x=>(List.range' x.1 (x.2-x.1)).flatMap g)=(List.range' a (n-a)).flatMap g
 | 0,a,h=>by rw [Cm,show n-a=0 by omega];rfl
 | f+1,a,h=>by
   rw [Cm]
   by_cases h0:a<n
   ·rw [if_pos h0,List.flatMap_cons]
    by_cases h1:a+every≤n
    ·rw [Nat.min_eq_left h1,LD g he f (a+every) (by rw [Nat.add_mul,Nat.one_mul] at h;omega)]
     dsimp only
     rw [←List.flatMap_append,Nat.add_sub_cancel_left,List.range'_append_1,show every+(n-(a+every))=n-a by omega]
    rw [Nat.min_eq_right (by omega),LD g he f (a+every) (by rw [Nat.add_mul,Nat.one_mul] at h;omega)]
    dsimp only
    rw [show n-(a+every)=0 by omega]
    simp
   rw [if_neg h0,show n-a=0 by omega];rfl
theorem Sb(g:Nat→List Int)(n every:Nat):(A5 n every).flatMap (fun x=>(List.range' x.1 (x.2-x.1)).flatMap g)=(List.range' 0 n).flatMap g:=by
 unfold A5
 by_cases h:every=0∨n=0
 ·rw [if_pos h];simp
 rw [if_neg h,LD g (by omega) n 0 (by have:=Nat.le_mul_of_pos_right n (show 0<every by omega);omega)]
 simp
theorem Wc{l:List Int}{n:Nat}(every:Nat)(hl:l.length=n*64)(h:Aw l n=true):Wb l (A5 n every)=LG l n:=by
 rw [Sc hl h,←Sb _ n every]
 unfold Wb
 rw [List.flatMap_def,List.flatMap_def]
 congr 1
 refine List.map_congr_left fun x hx=>?_
 obtain ⟨a1,a2⟩:=D5 n every x hx
 exact ZU hl h a1 a2
theorem Hg:∀L:List Nat,(L.flatMap fun _:Nat=>[(0:Int)]).length=L.length
 | []=>rfl
 | x::L=>by rw [List.flatMap_cons,List.length_append,Hg L];simp;omega
theorem ZM{l:List Int}{n:Nat}(every:Nat):(T1 l (A5 n every)).length≤n:=by
 have h1:∀(l:List Int)(k:Nat),(P4 l k).length≤k:=fun l k=>by
  induction k with
  | zero=>simp [P4]
  | succ k ih=>
    rw [LF,List.length_append,List.length_map,List.length_take]
    omega
 have h2:∀L:List (Nat×Nat),(T1 l L).length≤(L.flatMap fun x=>(List.range' x.1 (x.2-x.1)).flatMap fun _:Nat=>[(0:Int)]).length:=fun L=>by
  induction L with
  | nil=>simp [T1]
  | cons x L ih=>
    unfold T1 at ih⊢
    rw [List.flatMap_cons,List.flatMap_cons,List.length_append,List.length_append]
    have e:=Hg (List.range' x.1 (x.2-x.1))
    rw [List.length_range'] at e
    have:=h1 (Ap l x.1 x.2) (x.2-x.1)
    rw [e]
    omega
 refine Nat.le_trans (h2 _) ?_
 rw [Sb (fun _:Nat=>[(0:Int)]),Hg,List.length_range']
 exact Nat.le_refl _
theorem Ws(C:List Int):Bh C []=[]:=by unfold Bh;simp
theorem Wk(s:Int):symW [] s=none:=by unfold symW;rfl
theorem Oe{C1 S1 C2 S2 l:List Int}:∀(L:List (Nat×Nat))(k:Nat),(∀x∈L,Cg C1 S1 C2 S2 (Ap l x.1 x.2) (x.2-x.1)=0∨Cg C1 S1 C2 S2 (Ap l x.1 x.2) (x.2-x.1)=5)→(∃x∈L,Cg C1 S1 C2 S2 (Ap l x.1 x.2) (x.2-x.1)=5)→(GV C1 S1 C2 S2 l L k).1=5
 | [],k,_,⟨x,hx,_⟩=>by cases hx
 | x::L,k,h,⟨y,hy,h5⟩=>by
   rw [GV]
   rcases h x (by simp) with h0|h0
   ·rw [if_neg (by rw [h0];decide)]
    dsimp only
    refine Oe L (k+1) (fun z hz=>h z (by simp [hz])) ?_
    rcases List.mem_cons.1 hy with rfl|hy
    ·rw [h0] at h5;cases h5
    exact ⟨y,hy,h5⟩
   rw [if_pos (by rw [h0];decide),h0]
theorem Tz{C1 S1 C2 l:List Int}{n every:Nat}(hl:l.length=n*64)(hn:n≤400)(he:every≤100)(h:Aw l n=true)(ht1:Ay C1 S1=0)(ht2:Ay C2 []=0)(hR:LG l n≠[]):Fk C1 S1 C2 [] l n every=(5,[]):=by
 have ht:D4 C1 S1 C2 []=0:=by unfold D4;rw [if_pos ht1];exact ht2
 have hb:=GO hn h
 have h5:(GV C1 S1 C2 [] l (A5 n every) 0).1=5:=by
  refine Oe _ _ (fun x hx=>?_) ?_
  ·obtain ⟨a1,a2⟩:=D5 n every x hx
   have hb':=GO (show x.2-x.1≤400 by omega) (Eb h a1 a2)
   by_cases hw:Ef (Bh C1 S1) (Bh C2 []) (DA (Ap l x.1 x.2) 0 (x.2-x.1))
   ·exact .inl (SV ht hb' hw)
   exact .inr (PV ht hb' hw)
  rw [←Wc every hl h] at hR
  obtain ⟨y,hy⟩:∃y,y∈Wb l (A5 n every):=List.exists_mem_of_ne_nil _ hR
  obtain ⟨x,hx,hy⟩:=List.mem_flatMap.1 hy
  refine ⟨x,hx,?_⟩
  obtain ⟨a1,a2⟩:=D5 n every x hx
  have hb':=GO (show x.2-x.1≤400 by omega) (Eb h a1 a2)
  refine PV ht hb' fun hw=>?_
  have hc:=Jy (Ap l x.1 x.2) (x.2-x.1)
  rw [FQ] at hc
  simp only [List.nil_append,Prod.mk.injEq,true_and] at hc
  rw [←hc.2] at hy
  obtain ⟨z,hz,rfl⟩:=List.mem_map.1 hy
  obtain ⟨hz1,hz2⟩:=List.mem_filter.1 hz
  have:=hw z hz1
  rw [Ws] at this
  have hz3:z.2=false:=by simpa using hz2
  rw [hz3,if_neg (by decide),Wk] at this
  cases this
 unfold Fk
 rw [if_pos (by omega),if_pos ht,if_pos hb,Int.toNat_natCast,if_neg (by rw [h5];decide),h5]
theorem Uw{l:List Int}{n:Nat}(every:Nat)(hn:n≤400):bE (Cn (T1 l (A5 n every)))=0:=MI (Nat.le_trans (ZM every) (by omega))
theorem Kz(a b:List Af):AF (a++b)=AF a++AF b:=by
 induction a with
 | nil=>rfl
 | cons x a ih=>rw [List.cons_append,AF,AF,ih,List.append_assoc]
inductive Jr(ss:List Af):List Af→Nat→List Af→Prop
 | head {B D:List Af} (hb:(AF B).length=(AF ss).length):Jr ss (B++D) 0 (ss++D)
 | skipI {l:List Int} {ps ps':List Af} {off n o2:Nat} (hn:Al l n) (h:n≤off) (ho:off-n=o2) (t:Jr ss ps o2 ps'):Jr ss (.ints l::ps) off (.ints l::ps')
 | skipV {v:Value} {ps ps':List Af} {off:Nat} (t:Jr ss ps off ps'):Jr ss (.val v::ps) (off+1) (.val v::ps')
theorem Jr.eq{ss ps ps':List Af}{off:Nat}(h:Jr ss ps off ps'):∃A B D:List Value,AF ps=A++(B++D)∧AF ps'=A++(AF ss++D)∧A.length=off∧B.length=(AF ss).length:=by
 induction h with
 | @head B D hb=>exact ⟨[],AF B,AF D,by rw [Kz];rfl,by rw [Kz];rfl,rfl,hb⟩
 | @skipI l ps ps' off n o2 hn h ho t ih=>
   obtain ⟨A,B,D,e1,e2,e3,e4⟩:=ih
   have hl:=hn.out
   exact ⟨l.map (Value.int .i64)++A,B,D,by rw [AF,e1,List.append_assoc];rfl,by rw [AF,e2,List.append_assoc];rfl,by simp;omega,e4⟩
 | @skipV v ps ps' off t ih=>
   obtain ⟨A,B,D,e1,e2,e3,e4⟩:=ih
   exact ⟨v::A,B,D,by rw [AF,e1];rfl,by rw [AF,e2];rfl,by simp [e3],e4⟩
theorem MZ(g:Nat):∀(vs B A D:List Value)(w:World),Li w g (A++(B++D)).toArray→B.length=vs.length→Li (w.setCells g A.length vs) g (A++(vs++D)).toArray∧Ek [g] w (w.setCells g A.length vs)
 | [],[],A,D,w,h,_=>⟨h,⟨rfl,rfl,rfl,Nat.le_refl _,fun _ _ _=>rfl⟩⟩
 | [],_::_,A,D,w,h,hl=>by simp at hl
 | _::_,[],A,D,w,h,hl=>by simp at hl
 | v::vs,b::B,A,D,w,h,hl=>by
   have h1:=h.set A.length v
   have e1:((A++(b::B++D)).toArray).setIfInBounds A.length v=((A++[v])++(B++D)).toArray:=by
    simp
   rw [e1] at h1
   obtain ⟨h2,h3⟩:=MZ g vs B (A++[v]) D _ h1 (by simpa using hl)
   have e2:w.setCells g A.length (v::vs)=(w.setCell ⟨g,A.length,none⟩ v).setCells g (A++[v]).length vs:=by
    rw [World.setCells,List.length_append];rfl
   rw [e2]
   refine ⟨by simpa using h2,?_⟩
   have h4:=Ek.setCell w ⟨g,A.length,none⟩ v
   exact ⟨h3.os.trans h4.os,h3.tape.trans h4.tape,h3.output.trans h4.output,Nat.le_trans h4.size h3.size,fun k hk hm=>(h3.block k (Nat.lt_of_lt_of_le hk h4.size) hm).trans (h4.block k hk hm)⟩
section
variable{P:Program}{W w:World}{rs rs':List Ar}{Q:Exit→Act→World→Prop}{K:Act→World→Prop}{o:Oper}{a:Act}
theorem Hy(hS:St W w rs)(ty:TypeId)(x y:Operand)(ho:o.op= .store ty x y)(g off:Nat)(hx:a.eval x= .pointer (some ⟨g,off,none⟩))(m:Nat)(h1:Ey P ty m)(ps ps' ss:List Af)(hp:AT (prt g ps) rs rs')
 (hy:a.eval y= .agg (AF ss).toArray) (hr:Jr ss ps off ps') (hm:(AF ss).length=m) (hv:ss.all NY=true) (hd:o.dst=none) (h:∀w',St W w' (prt g ps'::rs')→K a w'):o.wp P a w K Q:=by
 obtain ⟨A,B,D,e1,e2,e3,e4⟩:=hr.eq
 subst e3
 have hb:=(hS.blk hp).1
 rw [e1] at hb
 obtain ⟨h2,h3⟩:=MZ g (AF ss) B A D w hb e4
 refine wp_store_mid ty x y ho g A.length (AF ss).toArray hx hy ?_ (by rw [h1.2];simp [hm]) (by simpa using Gd hv) ?_
 ·intro j hj
  rw [List.size_toArray] at hj
  refine ⟨?_,hb.free _⟩
  rw [hb.cell]
  have:A.length+j<(A++(B++D)).toArray.size:=by simp;omega
  rw [Array.getElem?_eq_getElem this];rfl
 rw [show a.put o.dst undef=a by rw [hd];rfl]
 refine h _ ?_
 refine St.change (rs1:=[prt g ps']) (hS.pull hp) fun f1 k1 _ _=>?_
 obtain ⟨rfl,_⟩:=k1
 refine ⟨[g],⟨[g],[],rfl,⟨rfl,?_⟩,rfl⟩,by simp,fun b hb=> .inl hb,h3⟩
 rw [e2];exact h2
end
theorem WG{C1 C C2:List Int}{v1 v v2:Value}(hC1:Al C1 16)(hC:Al C 16):Jr [.ints C, .val v] [.ints C1, .val v1, .ints C2, .val v2] 0 [.ints C, .val v, .ints C2, .val v2]:=
 .head (B:=[.ints C1, .val v1]) (D:=[.ints C2, .val v2]) (by simp [AF,Af.cells,hC1.out,hC.out])
theorem WH{C1 C C2:List Int}{v1 v v2:Value}(hC1:Al C1 16)(hC2:Al C2 16)(hC:Al C 16):Jr [.ints C, .val v] [.ints C1, .val v1, .ints C2, .val v2] 17 [.ints C1, .val v1, .ints C, .val v]:=
 .skipI hC1 (by omega) rfl (.skipV (.head (B:=[.ints C2, .val v2]) (D:=[]) (by simp [AF,Af.cells,hC2.out,hC.out])))
theorem Wa{l:List Int}{L:List (Nat×Nat)}{k:Nat}{x:Nat×Nat}(hx:L[k]? =some x):T1 l (L.take (k+1))=T1 l (L.take k)++P4 (Ap l x.1 x.2) (x.2-x.1):=by
 obtain ⟨hk,e⟩:=List.getElem?_eq_some_iff.1 hx
 rw [List.take_succ_eq_append_getElem hk,e]
 unfold T1
 rw [List.flatMap_append]
 simp
theorem Wd{l:List Int}{L:List (Nat×Nat)}{k:Nat}{x:Nat×Nat}(hx:L[k]? =some x):Wb l (L.take (k+1))=Wb l (L.take k)++LG (Ap l x.1 x.2) (x.2-x.1):=by
 obtain ⟨hk,e⟩:=List.getElem?_eq_some_iff.1 hx
 rw [List.take_succ_eq_append_getElem hk,e]
 unfold Wb
 rw [List.flatMap_append]
 simp
theorem PB(w0:World)(c:List Int)(ad:Option Addr)(n cap:Nat)(hv:Sl w0 1 (.slice ad n cap) n (c.map (Value.int .i64)))(hn:n≤9223372036854775807):
 Calls Tryz.prog 72 #[.slice ad n cap] w0 fun e w=>∃(C S:List Int) (ao:Option Addr) (m co:Nat),Al C 16∧S.length=m∧m≤256∧Ay C S=0∧(bE c=0→Mk c n C S)∧(bE c≠0→S=[])∧e= .returned (.tuple #[tv C (.slice ao m co), .int .i64 (bE c)])∧St w0 w [own 3 1 ao m co (S.map (Value.int .i64))]:=by
 by_cases hb:bE c=0
 ·refine (Tj w0 c ad n cap hv hn hb).mono ?_
  rintro e w ⟨C,S,ao,co,hM,rfl,hS⟩
  exact ⟨C,S,ao,S.length,co,hM.len,rfl,(Dq hM.ok).2.2.1,hM.ok,fun _=>hM,fun h=>absurd hb h,by rw [hb],hS⟩
 refine (Vl w0 c ad n cap hv hn hb).mono ?_
 rintro e w ⟨rfl,hE⟩
 exact ⟨_,[],none,0,0,W4,rfl,by omega,W5,fun h=>absurd h hb,fun _=>rfl,rfl,(St.of_ext hE).nil _ _⟩
def Sz(w0:World)(F R:List Int)(e:Ending)(w:World):Prop:=
 ∃(C1 S1 C2 S2:List Int) (a1 a2:Option Addr) (m1 k1 m2 k2:Nat),Al C1 16∧Al C2 16∧S1.length=m1∧S2.length=m2∧m1≤256∧m2≤256∧Ay C1 S1=0∧Ay C2 S2=0∧(bE (Cn F)=0→Mk (Cn F) 256 C1 S1)∧(bE (Cn R)=0→Mk (Cn R) 256 C2 S2)∧(bE (Cn R)≠0→S2=[])∧
  e= .returned (.agg (AF [.ints C1, .val (.slice a1 m1 k1), .ints C2, .val (.slice a2 m2 k2)]).toArray)∧St w0 w [own 3 1 a1 m1 k1 (S1.map (Value.int .i64)),own 3 1 a2 m2 k2 (S2.map (Value.int .i64))]
theorem FZ(w0:World)(ad:Option Addr)(n c:Nat)(l:List Int)(every:Nat)(hn:n≤400)(he:every≤100)(hb:Aw l n=true)(hv:Sl w0 64 (.slice ad n c) n (l.map (Value.int .i64))):
 Calls Tryz.prog 41 #[.slice ad n c, .int .i64 every] w0 (Sz w0 (T1 l (A5 n every)) (Wb l (A5 n every))):=by
 have hl:l.length=n*64:=by have:=hv.1;simpa using this
 have HL:=AD hl
 have HAB:=AD hb
 have hnc:n≤c:=by
  obtain ⟨_,a',c',e,h1,_⟩:=hv
  cases e;exact h1
 clear hl hb
 have hpsl:=Pb n every
 obtain ⟨P,hP⟩:∃P,A5 n every=P:=⟨_,rfl⟩
 have hin:=Sa n every
 rw [hP] at hpsl hin⊢
 have HIN:=AD hin
 have HPE:=AD hP
 obtain ⟨m8,hm8⟩:∃m,P.length=m:=⟨_,rfl⟩
 rw [hm8] at hpsl
 have HM8:=AD hm8
 clear hP hin hm8
 have hS:=St.start w0
 go_enter Tryz.func41,Tryz.ntmps41
 repeat' (first
  | (refine AQ 4 ?_);(refine Ad ?_;apply Gn (o:=⟨some 4,_,_,_,_,_⟩) hS 34 rfl _ fJ;clear hS;intro g4 w hS;refine AB ?_;go_step)|refine AG ?_;go_step|fail)
 replace hS:St w0 _ [prt g4 [.ints (List.replicate 16 0), .val (.slice none 0 0), .ints (List.replicate 16 0), .val (.slice none 0 0)]]:=hS
 apply Ww (rs:=fun g13 g14=>[own 3 1 (some ⟨g13,0,none⟩) 256 256 ((Cn []).map (Value.int .i64)),own 3 1 (some ⟨g14,0,none⟩) 256 256 ((Cn []).map (Value.int .i64)),prt g4 [.ints (List.replicate 16 0), .val (.slice none 0 0), .ints (List.replicate 16 0), .val (.slice none 0 0)]])
 ·refine AP [] (fun _=>True) AA ?_
  replace hS:=hS.drew
  focus
   refine BM [0,1] AA (by simp) (.cons Aj AA ?_ (.cons Aj AA ?_ (.nil)))
   rotate_left 1
   focus
    refine Y1 ?_;clear hS;intro g14 w hS
    refine Av 0 ?_
    refine Y1 ?_;clear hS;intro g13 w hS
    refine AZ 2 ?_
    refine AZ 3 ?_
    refine AE AA ?_ _
    exact ⟨rfl,g13,g14,rfl,by rw [Az];exact hS.sub AV⟩
   rotate_right 1
   focus
    refine Y1 ?_;clear hS;intro g13 w hS
    refine AZ 2 ?_
    refine Av 1 ?_
    refine Y1 ?_;clear hS;intro g14 w hS
    refine AZ 3 ?_
    refine AE AA ?_ _
    exact ⟨rfl,g13,g14,rfl,by rw [Az];exact hS.sub AV⟩
 clear hS
 intro g13 g14 w hS
 ·repeat' (first
   | (refine As 50 ?_);refine At AA Tryz.call50 (EI _ n every (by omega) (by omega)) ?_;rintro e w ⟨a8,c8,m9,hm9,rfl,hS2⟩;rw [HPE.out] at hm9 hS2;obtain rfl:m8=m9:=(by rw [←hm9];exact HM8.out.symm);replace hS:=hS.call1 hS2;clear hS2 hm9;refine Ac ?_;go_step|refine X1 ?_|refine XD ?_|refine cx ?_|refine AG ?_;go_step|fail)
  go_loopg [20] m8 (fun gk kv w=>∃(k:Nat) (A B:List Int),gk+k=m8∧kv= .int .i64 k∧A.length≤k*25600∧B.length≤k*25600∧Hid (A=T1 l (P.take k))∧Hid (B=Wb l (P.take k))∧St w0 w [own 94 2 a8 m8 c8 ((OC P).map (Value.int .i64)),own 3 1 (some ⟨g13,0,none⟩) 256 256 ((Cn A).map (Value.int .i64)),own 3 1 (some ⟨g14,0,none⟩) 256 256 ((Cn B).map (Value.int .i64)),prt g4 [.ints (List.replicate 16 0), .val (.slice none 0 0), .ints (List.replicate 16 0), .val (.slice none 0 0)]])
  case atStart=>exact ⟨0,[],[],by omega,rfl,by simp,by simp,AD rfl,AD rfl,hS.sub AV⟩
  case round=>
   clear hS
   obtain ⟨k,A,B,hk,rfl,hAl,hBl,HF,HR,hS⟩:=hrel
   by_cases hlt:k<m8
   ·obtain ⟨⟨f,t⟩,hx⟩:∃x,P[k]? =some x:=⟨_,List.getElem?_eq_getElem (by rw [HM8.out];exact hlt)⟩
    have hft:=HIN.out _ (List.mem_of_getElem? hx)
    dsimp only at hft
    have hseg:=IV P k _ hx
    dsimp only at hseg
    have hsl:(Ap l f t).length=(t-f)*64:=CE HL.out hft.1 hft.2
    have hbk:=GO (show t-f≤400 by omega) (Eb HAB.out hft.1 hft.2)
    have hsy:=Wj hsl (t-f) (Nat.le_refl _)
    have hF2:=Wa (l:=l) hx
    have hR2:=Wd (l:=l) hx
    dsimp only at hF2 hR2
    rw [←HF.out] at hF2
    rw [←HR.out] at hR2
    have hcc:=hv.cutAt f t hft.1 hft.2
    rw [show ((l.map (Value.int .i64)).drop (f*64)).take ((t-f)*64)=(Ap l f t).map (Value.int .i64) by unfold Ap;simp] at hcc
    have HBK:=AD hbk
    have HF2:=AD hF2
    have HR2:=AD hR2
    clear HF HR hx hsl hbk hF2 hR2
    obtain ⟨b8,rfl⟩:=Ba (a:=a8) hS AL (by omega)
    repeat' (first
     | (refine AQ 31 ?_);refine AM (f:=71) Tryz.call71 AA ?_;refine ⟨_,(E4 _ (cutAt ad c f 64) (t-f) (c-f) (Ap l f t) (by omega) (hcc.ext hS.1)),?_⟩;rintro e w ⟨hq,_⟩;obtain ⟨g1,g2,rfl,hS2⟩:=hq HBK.out;clear hq;replace hS:=Dt hS hS2;clear hS2;refine Ac ?_;go_step|refine X0 ?_|refine X2 ?_|refine S8 22 ?_|refine aY ?_|refine aZ ?_|(with_reducible refine Ak _ (.slice 42 _ _ _ _) ?_);(refine An AA (V.slice Tryz.underlying42 JY rfl (by (first|exact Lo.none|exact Lo.some rfl A9)) (by (first|exact Up.none|exact Up.some rfl A9)) (by omega) (by omega)) ?_;go_step)|refine X6 ?_|refine XC ?_|refine dB ?_|refine ch 8 ?_;clear hS;intro g8 w hS|refine ct ?_;clear hS;intro w hS|refine X9 ?_|refine AG ?_;go_step|fail)
    all_goals (try exact AR)
    obtain ⟨gk1,hgk1⟩:∃x,x=gk:=⟨_,rfl⟩
    subst hgk1
    obtain ⟨X,hX⟩:∃X,P4 (Ap l f t) (t-f)=X:=⟨_,rfl⟩
    obtain ⟨Y,hY⟩:∃X,LG (Ap l f t) (t-f)=X:=⟨_,rfl⟩
    rw [hX,hY] at hS hsy
    rw [hX] at HF2
    rw [hY] at HR2
    clear hX hY hcc
    go_loopg [37] 256 (fun gk kv w=>∃(i:Nat) (l1 l2:List Int),gk+i=256∧kv= .int .i64 i∧Hid (l1.length=256)∧Hid (l2.length=256)∧Hid (∀j,j<256→AJ l1 j=if j<i then AJ (Cn (A++X)) j else AJ (Cn A) j)∧Hid (∀j,j<256→AJ l2 j=if j<i then AJ (Cn (B++Y)) j else AJ (Cn B) j)∧St w0 w [own 94 2 (some ⟨b8,0,none⟩) m8 c8 ((OC P).map (Value.int .i64)),own 3 1 (some ⟨g13,0,none⟩) 256 256 (l1.map (Value.int .i64)),own 3 1 (some ⟨g14,0,none⟩) 256 256 (l2.map (Value.int .i64)),own 3 1 (some ⟨g1,0,none⟩) 256 256 ((Cn X).map (Value.int .i64)),own 3 1 (some ⟨g2,0,none⟩) 256 256 ((Cn Y).map (Value.int .i64)),prt g4 [.ints (List.replicate 16 0), .val (.slice none 0 0), .ints (List.replicate 16 0), .val (.slice none 0 0)]])
    case atStart=>exact ⟨0,Cn A,Cn B,rfl,rfl,AD (Dj _),AD (Dj _),AD (fun j hj=>by rw [if_neg (by omega)]),AD (fun j hj=>by rw [if_neg (by omega)]),hS.sub AV⟩
    case round=>
     clear hS
     obtain ⟨i,l1,l2,hi,rfl,HL1,HL2,HV1,HV2,hS⟩:=hrel
     by_cases hlt2:i<256
     ·have e1:=HV1.out i hlt2
      have e2:=HV2.out i hlt2
      rw [if_neg (by omega)] at e1 e2
      have a1:=G8 A hlt2
      have a2:=G8 B hlt2
      have a3:=G8 X hlt2
      have a4:=G8 Y hlt2
      rw [←e1] at a1
      rw [←e2] at a2
      have HA1:=AD (show AJ l1 i+AJ (Cn X) i=AJ (Cn (A++X)) i by rw [e1];exact Rh hlt2)
      have HA2:=AD (show AJ l2 i+AJ (Cn Y) i=AJ (Cn (B++Y)) i by rw [e2];exact Rh hlt2)
      clear e1 e2
      repeat' (first
       | refine X0 ?_|refine X2 ?_|refine AG ?_;go_step|fail)
      all_goals (try exact AR)
      refine AP [10] (fun w=>St w0 w [own 3 1 (some ⟨g13,0,none⟩) 256 256 (l1.map (Value.int .i64)),own 3 1 (some ⟨g1,0,none⟩) 256 256 ((Cn X).map (Value.int .i64))]) AA ?_
      replace hS:=hS.drew
      focus
       refine AZ 0 ?_
       refine AZ 1 ?_
       refine Y7 2 ?_
       refine dw 3 [8,9,10] ?_
       refine AZ 4 ?_
       refine AZ 5 ?_
       refine Y7 6 ?_
       refine dw 7 [8,9,10] ?_
       refine Y9 8 ?_
       refine Y7 9 ?_
       refine Av 10 ?_
       refine dF ?_;clear hS;intro w hS
       refine AE AA ?_ _
      repeat' (first|(refine AG ?_;go_step)|fail)
      refine AP [10] (fun w=>St w0 w [own 3 1 (some ⟨g14,0,none⟩) 256 256 (l2.map (Value.int .i64)),own 3 1 (some ⟨g2,0,none⟩) 256 256 ((Cn Y).map (Value.int .i64))]) AA ?_
      replace hS:=hS.drew
      focus
       refine AZ 0 ?_
       refine AZ 1 ?_
       refine Y7 2 ?_
       refine dw 3 [8,9,10] ?_
       refine AZ 4 ?_
       refine AZ 5 ?_
       refine Y7 6 ?_
       refine dw 7 [8,9,10] ?_
       refine Y9 8 ?_
       refine Y7 9 ?_
       refine Av 10 ?_
       refine dF ?_;clear hS;intro w hS
       refine AE AA ?_ _
      repeat' (first
       | refine X1 ?_|refine X7 ?_|refine AG ?_;go_step|fail)
      rw [HA1.out,HA2.out] at hS
      have nset:∀(l:List Int)(D E:List Int),l.length=256→(∀j,j<256→AJ l j=if j<i then AJ (Cn (D++E)) j else AJ (Cn D) j)→∀j,j<256→AJ (l.set i (AJ (Cn (D++E)) i)) j=if j<i+1 then AJ (Cn (D++E)) j else AJ (Cn D) j:=fun l D E h1 h2 j hj=>by
       rw [CN _ _ _ _ (by rw [h1];exact hlt2)]
       by_cases h:i=j
       ·subst h;rw [if_pos rfl,if_pos (by omega)]
       rw [if_neg h,h2 j hj]
       by_cases h3:j<i
       ·rw [if_pos h3,if_pos (by omega)]
       rw [if_neg h3,if_neg (by omega)]
      go_roundg (gk-1)
      case measure=>omega
      case rel=>exact ⟨i+1,l1.set i (AJ (Cn (A++X)) i),l2.set i (AJ (Cn (B++Y)) i),by omega,by go_num,AD (by rw [List.length_set];exact HL1.out),AD (by rw [List.length_set];exact HL2.out),AD (nset _ _ _ HL1.out HV1.out),AD (nset _ _ _ HL2.out HV2.out),hS.sub AV⟩
     obtain rfl:i=256:=by omega
     have q1:l1=Cn (A++X):=Jw HL1.out (Dj _) fun j hj=>by rw [HV1.out j hj,if_pos hj]
     have q2:l2=Cn (B++Y):=Jw HL2.out (Dj _) fun j hj=>by rw [HV2.out j hj,if_pos hj]
     rw [q1,q2] at hS
     repeat' (first
      | refine X2 ?_|refine AG ?_;go_step|fail)
     repeat' (first
      | refine X1 ?_|refine X7 ?_|refine AG ?_;go_step|fail)
     go_roundg (gk1-1)
     case measure=>omega
     case rel=>exact ⟨k+1,A++X,B++Y,by omega,by go_num,by rw [List.length_append];omega,by rw [List.length_append];omega,AD HF2.out.symm,AD HR2.out.symm,hS.sub AV⟩
   obtain rfl:k=m8:=by omega
   have hf:=HF.out
   have hr:=HR.out
   rw [List.take_of_length_le (by rw [HM8.out];exact Nat.le_refl _)] at hf hr
   subst hf
   subst hr
   obtain ⟨F,hF⟩:∃F,T1 l P=F:=⟨_,rfl⟩
   obtain ⟨R,hR⟩:∃F,Wb l P=F:=⟨_,rfl⟩
   rw [hF,hR] at hS⊢
   obtain ⟨E1,hE1⟩:∃E,bE (Cn F)=E:=⟨_,rfl⟩
   obtain ⟨E2,hE2⟩:∃E,bE (Cn R)=E:=⟨_,rfl⟩
   have HE1:=AD hE1
   have HE2:=AD hE2
   have HFE:=AD hF
   have HRE:=AD hR
   clear HF HR hF hR hE1 hE2 hAl hBl
   have hZ:Al (List.replicate 16 (0:Int)) 16:=Al.rep
   repeat' (first
    | refine X1 ?_|refine X2 ?_|refine AG ?_;go_step|fail)
   repeat' (first
    | (refine AQ 64 ?_);refine AM (f:=72) Tryz.call72 AA ?_;refine ⟨_,(PB _ (Cn F) (some ⟨g13,0,none⟩) 256 256 (hS.sl AL) (by decide)),?_⟩;rintro e w ⟨C1,S1,a1,m1,k1,hC1,hm1,hb1,ht1,hM1,hN1,rfl,hS2⟩;rw [HE1.out];replace hS:=hS.call1 hS2;clear hS2;have HM1:=AD hM1;have HT1:=AD ht1;clear hM1 ht1 hN1;refine Ac ?_;go_step|(refine AQ 70 ?_);refine AM (f:=72) Tryz.call72 AA ?_;refine ⟨_,(PB _ (Cn R) (some ⟨g14,0,none⟩) 256 256 (hS.sl AL) (by decide)),?_⟩;rintro e w ⟨C2,S2,a2,m2,k2,hC2,hm2,hb2,ht2,hM2,hN2,rfl,hS2⟩;rw [HE2.out];replace hS:=hS.call1 hS2;clear hS2;have HM2:=AD hM2;have HT2:=AD ht2;have HN2:=AD hN2;clear hM2 ht2 hN2;refine Ac ?_;go_step|(with_reducible refine Ak _ (.store 32 (.tmp 67) _) ?_);refine Ad ?_;refine Hy hS 32 _ _ rfl g4 0 rfl 17 (AO rfl) _ _ [.ints C1, .val _] AL rfl (WG hZ hC1) (Dr C1 _ hC1) rfl rfl ?_;clear hS;intro w hS|(with_reducible refine Ak _ (.store 32 (.tmp 73) _) ?_);refine Ad ?_;refine Hy hS 32 _ _ rfl g4 17 rfl 17 (AO rfl) _ _ [.ints C2, .val _] AL rfl (WH hC1 hZ hC2) (Dr C2 _ hC2) rfl rfl ?_;clear hS;intro w hS|refine X1 ?_|refine X6 ?_|refine cy ?_|refine cz ?_|refine AG ?_;go_step|fail)
   repeat' (first
    | refine P0 ?_|(with_reducible refine Ak _ (.store 34 _ _) ?_);(refine Ad ?_;apply Fb hS 34 _ _ rfl _ rfl 34 (AO rfl) _ _;(case hp=>exact AL);(case hy=>rfl);(case hn=>(repeat (first|exact Bx.nil|(apply Bx.ints;(case hn=>exact EC);(case h=>omega);(case hm=>rfl))|apply Bx.val)));(case hn'=>(repeat (first|exact Bx.nil|(apply Bx.ints;(case hn=>exact EC);(case h=>omega);(case hm=>rfl))|apply Bx.val)));(case hv=>rfl);(case hd=>exact rfl);clear hS;intro w hS)|refine AG ?_;go_step|fail)
   refine BQ rfl (AC.prt hS rfl (AO (n:=34) rfl) AL (by (repeat (first|exact Bx.nil|(apply Bx.ints;(case hn=>exact EC);(case h=>omega);(case hm=>rfl))|apply Bx.val)))) rfl ?_
   rw [HFE.out,HRE.out]
   exact ⟨C1,S1,C2,S2,a1,a2,m1,k1,m2,k2,hC1,hC2,hm1,hm2,hb1,hb2,HT1.out,HT2.out,HM1.out,HM2.out,HN2.out,rfl,hS.sub AV⟩
theorem VD(q b:List Int)(hq:q.length=64):Ds (dL q b)=true:=by
 have hb:(eg b).length=64:=Fc _ _
 refine (BF _ _ _).2 fun i hi=>?_
 unfold dL Du
 split
 ·rw [Px _ _ _ hb hq i (by rw [M8 q b hq] at hi;exact hi)]
  unfold dn
  omega
 unfold CX;rw [EH];omega
theorem QA{a b:List Int}{n m:Nat}(ha:a.length=n*64)(h1:Aw a n=true)(h2:Aw b m=true):Aw (a++b) (n+m)=true:=by
 unfold Aw
 rw [List.all_eq_true]
 intro k hk
 have hk:=List.mem_range.1 hk
 by_cases hkn:k<n
 ·rw [K8 ha hkn];exact DZ h1 hkn
 have e:Bi (a++b) 64 k=Bi b 64 (k-n):=by
  unfold Bi
  rw [List.drop_append,List.drop_of_length_le (by rw [ha];omega),List.nil_append,ha,←Nat.sub_mul]
 rw [e];exact DZ h2 (by omega)
theorem QQ(q l:List Int)(hq:q.length=64)(n:Nat):Aw (QP q l n) n=true:=by
 unfold Aw
 rw [List.all_eq_true]
 intro k hk
 rw [Rn q l hq n k (List.mem_range.1 hk)]
 exact VD q _ hq
theorem K0(m h:Int)(q:List Int)(hq:q.length=64):∀L:List (List Int),Aw (Na m h q L) (L.length*Ae m h)=true
 | []=>by unfold Aw;simp
 | l::L=>by
   rw [Na,List.length_cons,Nat.add_mul,Nat.one_mul,Nat.add_comm]
   exact QA (IE q _ hq _) (QQ q _ hq _) (K0 m h q hq L)
theorem Hc(m h:Int)(q:List Int)(hq:q.length=64)(L:List (List Int)):Aw (P1 m h q L) (L.length*Ae m h)=true:=by
 have:=K0 m h q hq (DE UE UC UD L)
 rw [JF] at this
 exact this
theorem NO(m h:Int)(q:List Int)(hq:q.length=64)(L:List (List Int)):(P1 m h q L).length=L.length*Ae m h*64:=by
 have:=SN m h q hq (DE UE UC UD L)
 rw [JF] at this
 exact this
def EZ(m h:Int)(q:List Int)(L:List (List Int))(every:Int):Int:=if Lu m h q L=0 then if 0≤every∧every≤100 then if bE (Cn (LG (P1 m h q L) (L.length*Ae m h)))=0 then 0 else 5 else 1 else Lu m h q L
theorem Kg{m h:Int}{q:List Int}{L:List (List Int)}(h0:Lu m h q L=0):Hk m h L=0∧H4 q=true:=by
 unfold Lu at h0
 split at h0
 ·rename_i h1
  split at h0
  ·rename_i h2;exact ⟨h1,h2⟩
  cases h0
 rename_i h1;exact absurd h0 h1
theorem Dv{m h:Int}(hok:1≤m∧m≤64∧1≤h∧h≤64):1≤Ae m h∧Ae m h≤64∧(m+7)/8*((h+7)/8)=(Ae m h:Int):=by
 obtain ⟨k0,k1⟩:=ED ((m+7)/8) ((h+7)/8) 8 8 (by omega) (by omega)
 have k2:0<((m+7)/8)*((h+7)/8):=Int.mul_pos (by omega) (by omega)
 unfold Ae
 omega
theorem Ou(off:Nat):∀(us:List Value)(j:Nat)(A B D:List Value),A.length=off+j→B.length=us.length→
 List.foldl (fun cs (x:Value×Nat)=>cs.setIfInBounds (off+x.2) x.1) (A++(B++D)).toArray (us.zipIdx j)=(A++(us++D)).toArray
 | [],j,A,B,D,_,hB=>by
   obtain rfl:B=[]:=List.eq_nil_of_length_eq_zero (by simpa using hB)
   simp
 | u::us,j,A,B,D,hA,hB=>by
   cases B with
   | nil=>simp at hB
   | cons y B=>
     simp only [List.zipIdx_cons,List.foldl_cons]
     have e1:(A++(y::B++D)).toArray.setIfInBounds (off+j) u=((A++[u])++(B++D)).toArray:=by
      rw [List.setIfInBounds_toArray,List.set_append_right _ _ (by omega),hA,Nat.sub_self,List.cons_append,List.set_cons_zero,List.append_assoc]
      rfl
     rw [e1,Ou off us (j+1) (A++[u]) B D (by rw [List.length_append,hA];simp;omega) (by simpa using hB)]
     simp
theorem FA{place:Nat→Option (Nat×Nat)}{i off:Nat}{v:Value}{ps ps' ss:List Af}{rest:List (Nat×Value)}(hr:Jr ss ps off ps')(hv:v.cells=(AF ss).toArray)(hp:place i=some (off,(AF ss).length)):
 Instr.fill place (AF ps).toArray ((i,v)::rest)=Instr.fill place (AF ps').toArray rest:=by
 obtain ⟨A,B,D,e1,e2,hA,hB⟩:=hr.eq
 rw [Instr.fill,hp]
 dsimp only
 have hsz:v.cells.size=(AF ss).length:=by rw [hv];simp
 have hlen:(AF ps).length=A.length+(B.length+D.length):=by rw [e1,List.length_append,List.length_append]
 rw [if_neg (by rw [hsz];simp;omega)]
 congr 1
 rw [←Array.foldl_toList,hv,e1,e2]
 have:=Ou off (AF ss) 0 A B D (by omega) hB
 simpa using this
theorem JB{P:Program}{t:TypeId}{fields:Array Field}{z:Value}{places:Array (Nat×Nat)}{cells:Array Value}{parts:Array (Nat×Value)}(w:World)(hz:(zeroValue t).run P w= .ok z w)(ht:P.underlying t=some (.struct fields))
 (hp:(fields.mapM fun f=>do pure (f.offset,←sizeOf f.type):Sem (Array (Nat×Nat))).run P w= .ok places w) (hf:Instr.fill (places[·]?) z.cells parts.toList=some cells):(Instr.build t parts).run P w= .ok (.agg cells) w:=by
 unfold Instr.build
 simp only [Sem.run_bind,hz,Result.andThen_ok,run_underlying ht,hp,hf,Sem.run_pure]
def gz:Value:= .agg (AF [.val (.int .i64 0), .val (.int .i64 0), .val (.int .i64 0), .ints (List.replicate 64 0), .ints (List.replicate 16 0), .val (.slice none 0 0), .ints (List.replicate 16 0), .val (.slice none 0 0), .val (.int .i64 0), .val (.slice none 0 0)]).toArray
theorem IB(w:World):(Instr.build 37 #[]).run Tryz.prog w= .ok gz w:=by kernel_rfl
def fp(a b c:Value)(Q C1:List Int)(v1:Value)(C2:List Int)(v2 e d:Value):List Af:=[.val a, .val b, .val c, .ints Q, .ints C1, .val v1, .ints C2, .val v2, .val e, .val d]
section
variable{a b c x v1 v2 e d y1 y2:Value}{Q Q' C1 C2 D1 D2:List Int}
theorem ez:Jr [.val x] (fp a b c Q C1 v1 C2 v2 e d) 0 (fp x b c Q C1 v1 C2 v2 e d):=Jr.head (B:=[.val a]) (D:=[.val b, .val c, .ints Q, .ints C1, .val v1, .ints C2, .val v2, .val e, .val d]) rfl
theorem e6:Jr [.val x] (fp a b c Q C1 v1 C2 v2 e d) 1 (fp a x c Q C1 v1 C2 v2 e d):= .skipV (Jr.head (B:=[.val b]) (D:=[.val c, .ints Q, .ints C1, .val v1, .ints C2, .val v2, .val e, .val d]) rfl)
theorem e7:Jr [.val x] (fp a b c Q C1 v1 C2 v2 e d) 2 (fp a b x Q C1 v1 C2 v2 e d):= .skipV (.skipV (Jr.head (B:=[.val c]) (D:=[.ints Q, .ints C1, .val v1, .ints C2, .val v2, .val e, .val d]) rfl))
theorem e8(hQ:Al Q 64)(hQ':Al Q' 64):Jr [.ints Q'] (fp a b c Q C1 v1 C2 v2 e d) 3 (fp a b c Q' C1 v1 C2 v2 e d):= .skipV (.skipV (.skipV (Jr.head (B:=[.ints Q]) (D:=[.ints C1, .val v1, .ints C2, .val v2, .val e, .val d]) (by simp [AF,Af.cells,hQ.out,hQ'.out]))))
theorem fB(hQ:Al Q 64)(h1:Al C1 16)(h2:Al C2 16):Jr [.val x] (fp a b c Q C1 v1 C2 v2 e d) 101 (fp a b c Q C1 v1 C2 v2 x d):= .skipV (.skipV (.skipV (.skipI hQ (by omega) rfl (.skipI h1 (by omega) rfl (.skipV (.skipI h2 (by omega) rfl (.skipV (Jr.head (B:=[.val e]) (D:=[.val d]) rfl))))))))
theorem fA(hQ:Al Q 64)(h1:Al C1 16)(h2:Al C2 16)(k1:Al D1 16)(k2:Al D2 16):Jr [.ints D1, .val y1, .ints D2, .val y2] (fp a b c Q C1 v1 C2 v2 e d) 67 (fp a b c Q D1 y1 D2 y2 e d):= .skipV (.skipV (.skipV (.skipI hQ (by omega) rfl (Jr.head (B:=[.ints C1, .val v1, .ints C2, .val v2]) (D:=[.val e, .val d]) (by simp [AF,Af.cells,h1.out,h2.out,k1.out,k2.out])))))
end
theorem FN(m h p ev:Int)(Q C1 C2:List Int)(v1 v2:Value)(hQ:Al Q 64)(hC1:Al C1 16)(hC2:Al C2 16)(w:World):
 (Instr.build 37 #[(0, .int .i64 m),(1, .int .i64 h),(2, .int .i64 p),(3, .agg (iv Q)),(5, .int .i64 ev),(4, .agg (AF [.ints C1, .val v1, .ints C2, .val v2]).toArray)]).run Tryz.prog w= .ok (.agg (AF [.val (.int .i64 m), .val (.int .i64 h), .val (.int .i64 p), .ints Q, .ints C1, .val v1, .ints C2, .val v2, .val (.int .i64 ev), .val (.slice none 0 0)]).toArray) w:=by
 have hZ:Al (List.replicate 64 (0:Int)) 64:=Al.rep
 have hz:Al (List.replicate 16 (0:Int)) 16:=Al.rep
 refine JB (places:=#[(0,1),(1,1),(2,1),(3,64),(67,34),(101,1),(102,1)]) w (cY w) Tryz.underlying37 AA ?_
 refine Eq.trans (FA (i:=0) (off:=0) (v:= .int .i64 m) (ss:=[.val (.int .i64 m)]) (ps:=fp (.int .i64 0) (.int .i64 0) (.int .i64 0) (List.replicate 64 0) (List.replicate 16 0) (.slice none 0 0) (List.replicate 16 0) (.slice none 0 0) (.int .i64 0) (.slice none 0 0)) ez rfl rfl) ?_
 refine Eq.trans (FA (i:=1) (off:=1) (v:= .int .i64 h) (ss:=[.val (.int .i64 h)]) e6 rfl rfl) ?_
 refine Eq.trans (FA (i:=2) (off:=2) (v:= .int .i64 p) (ss:=[.val (.int .i64 p)]) e7 rfl rfl) ?_
 refine Eq.trans (FA (i:=3) (off:=3) (v:= .agg (iv Q)) (ss:=[.ints Q]) (e8 hZ hQ) (by simp [AF,Af.cells,Value.cells,iv]) (by simp [AF,Af.cells,hQ.out])) ?_
 refine Eq.trans (FA (i:=5) (off:=101) (v:= .int .i64 ev) (ss:=[.val (.int .i64 ev)]) (fB hQ hz hz) rfl rfl) ?_
 refine Eq.trans (FA (i:=4) (off:=67) (v:= .agg (AF [.ints C1, .val v1, .ints C2, .val v2]).toArray) (ss:=[.ints C1, .val v1, .ints C2, .val v2]) (fA hQ hz hz hC1 hC2) rfl (by simp [AF,Af.cells,hC1.out,hC2.out])) ?_
 rfl
structure Ud(B:List Int)(n ev:Nat)(C1 S1 C2 S2 D:List Int):Prop where
 l1:Al C1 16
 l2:Al C2 16
 m1:Mk (Cn (T1 B (A5 n ev))) 256 C1 S1
 m2:Mk (Cn (Wb B (A5 n ev))) 256 C2 S2
 d:D=In (EE C1 S1 C2 S2 B (A5 n ev)) 0
def VU(m h p:Int)(Q C1:List Int)(v1:Value)(C2:List Int)(v2:Value)(ev:Int)(vd:Value):Value:= .agg (AF [.val (.int .i64 m), .val (.int .i64 h), .val (.int .i64 p), .ints Q, .ints C1, .val v1, .ints C2, .val v2, .val (.int .i64 ev), .val vd]).toArray
def Fr(w0:World)(E m h:Int)(q:List Int)(np:Nat)(every:Int)(B:List Int)(n:Nat)(e:Ending)(w:World):Prop:=
 (E≠0→e= .returned (.tuple #[gz, .int .i64 E])∧Ai w0 w)∧
 (E=0→∃(C1 S1 C2 S2 D:List Int) (a1 a2 ad:Option Addr) (n1 k1 n2 k2 nd kd:Nat),Ud B n every.toNat C1 S1 C2 S2 D∧S1.length=n1∧S2.length=n2∧D.length=nd∧
   e= .returned (.tuple #[VU m h np q C1 (.slice a1 n1 k1) C2 (.slice a2 n2 k2) every (.slice ad nd kd), .int .i64 0])∧St w0 w [own 3 1 a1 n1 k1 (S1.map (Value.int .i64)),own 3 1 a2 n2 k2 (S2.map (Value.int .i64)),own 5 1 ad nd kd (D.map (Value.int .u8))])
theorem QT(w0:World)(m h:Int)(hm: -9223372036854775808≤m∧m≤9223372036854775807)(a:Option Addr)(c:Nat)(R:List Rw)(hR:R.length≤9223372036854775807)(hP:BU w0 a c R)(q:List Int)(hq:Al q 64)(every:Int)(h0:Lu m h q (R.map (·.xs))≠0∨every<0∨100<every):
 Calls Tryz.prog 17 #[.agg #[.int .i64 m, .int .i64 h, .slice a R.length c], .agg (iv q), .int .i64 every] w0 (Fr w0 (EZ m h q (R.map (·.xs)) every) m h q R.length every (P1 m h q (R.map (·.xs))) (R.length*Ae m h)):=by
 have hS:=St.start w0
 have HB:=AD fun (w:World)(hx:Ai w0 w)=>KT w m h hm a c R hR (hP.ext hx) q hq
 have HPE:=AD (show EZ m h q (R.map (·.xs)) every=if Lu m h q (R.map (·.xs))=0 then if 0≤every∧every≤100 then if bE (Cn (LG (P1 m h q (R.map (·.xs))) ((R.map (·.xs)).length*Ae m h)))=0 then 0 else 5 else 1 else Lu m h q (R.map (·.xs)) from rfl)
 obtain ⟨E0,hE0⟩:∃E,Lu m h q (R.map (·.xs))=E:=⟨_,rfl⟩
 rw [hE0] at HB HPE h0
 obtain ⟨N,hN⟩:∃N,R.length=N:=⟨_,rfl⟩
 rw [hN] at HB⊢
 clear hP hE0 hN
 by_cases hz:E0=0
 ·subst hz
  have hev:every<0∨100<every:=by
   rcases h0 with h|h
   ·exact absurd rfl h
   exact h
  have HF:=AD (show EZ m h q (R.map (·.xs)) every=1 by rw [HPE.out,if_pos rfl,if_neg (by omega)])
  have HB2:Hid (∀w,Ai w0 w→Calls Tryz.prog 19 #[.agg #[.int .i64 m, .int .i64 h, .slice a N c], .agg (iv q)] w fun e w'=>∃(ao:Option Addr) (co:Nat),e= .returned (.tuple #[.slice ao (N*Ae m h) co, .int .i64 0])∧Ai w w'):=fun w hx=>(HB.out w hx).mono fun e w' hh=>by
   obtain ⟨ao,co,h1,h2⟩:=hh.2 rfl
   exact ⟨ao,co,h1,h2.1⟩
  clear HPE h0 HB
  rcases hev with hev|hev
  all_goals
   go_enter Tryz.func17,Tryz.ntmps17
   repeat' (first
    | (refine As 19 ?_);refine At AA Tryz.call19 (HB2.out _ hS.1) ?_;rintro e w ⟨ao,co,rfl,hE2⟩;replace hS:=hS.ext hE2;clear hE2;refine Ac ?_;go_step|(refine AQ 29 ?_);refine An AA (V.build (vs:=[]) rfl IB) ?_;go_step|go_skip|refine X0 ?_|refine Iu ?_|refine H6 18 ?_ ?_<;>intro hB<;>(try exact AR)<;>go_step|refine Ei 21 ?_ ?_<;>intro hB<;>(try exact AR)<;>go_step|refine X6 ?_|refine H3 ?_|refine X4 ?_|refine P7 3 ?_;clear hS;intro g3 w hS|refine Mw 4 ?_;clear hS;intro g4 w hS|refine YC 6 ?_;clear hS;intro g6 w hS|refine Us ?_|refine Jm ?_|refine YD ?_;clear hS;intro w hS|refine AG ?_;go_step|fail)
   all_goals (try exact AR)
   all_goals
    refine AK (xs:=[_,_]) rfl (.cons (AC.prt hS rfl (AO (n:=103) rfl) AL (by (repeat (first|exact Bx.nil|(apply Bx.ints;(case hn=>exact EC);(case h=>omega);(case hm=>rfl))|apply Bx.val)))) (.cons (AC.tmp rfl) (.nil))) (by simp) rfl ?_
    exact ⟨fun _=>⟨by rw [HF.out];rfl,hS.1⟩,fun h=>by rw [HF.out] at h;cases h⟩
 have HF:=AD (show EZ m h q (R.map (·.xs)) every=E0 by rw [HPE.out,if_neg hz])
 have HB2:Hid (∀w,Ai w0 w→Calls Tryz.prog 19 #[.agg #[.int .i64 m, .int .i64 h, .slice a N c], .agg (iv q)] w fun e w'=>e= .returned (.tuple #[.slice none 0 0, .int .i64 E0])∧Ai w w'):=fun w hx=>(HB.out w hx).mono fun e w' hh=>hh.1 hz
 clear HPE h0 HB
 go_enter Tryz.func17,Tryz.ntmps17
 repeat' (first
  | (refine As 19 ?_);refine At AA Tryz.call19 (HB2.out _ hS.1) (Fp hS ?_);clear hS;intro w hS;go_step|(refine AQ 29 ?_);refine An AA (V.build (vs:=[]) rfl IB) ?_;go_step|go_skip|refine X0 ?_|refine H7 ?_|refine H6 18 ?_ ?_<;>intro hB<;>(try exact AR)<;>go_step|refine X6 ?_|refine X4 ?_|refine P7 3 ?_;clear hS;intro g3 w hS|refine Mw 4 ?_;clear hS;intro g4 w hS|refine YC 6 ?_;clear hS;intro g6 w hS|refine Us ?_|refine Jm ?_|refine YD ?_;clear hS;intro w hS|refine AG ?_;go_step|fail)
 all_goals (try exact AR)
 all_goals
  refine AK (xs:=[_,_]) rfl (.cons (AC.prt hS rfl (AO (n:=103) rfl) AL (by (repeat (first|exact Bx.nil|(apply Bx.ints;(case hn=>exact EC);(case h=>omega);(case hm=>rfl))|apply Bx.val)))) (.cons (AC.tmp rfl) (.nil))) (by simp) rfl ?_
  exact ⟨fun _=>⟨by rw [HF.out];rfl,hS.1⟩,fun h=>by rw [HF.out] at h;exact absurd h hz⟩
theorem JP(w0:World)(m h:Int)(hm: -9223372036854775808≤m∧m≤9223372036854775807)(a:Option Addr)(c:Nat)(R:List Rw)(hR:R.length≤9223372036854775807)(hP:BU w0 a c R)(q:List Int)(hq:Al q 64)(ev:Nat)(hev:ev≤100)(h0:Lu m h q (R.map (·.xs))=0):
 Calls Tryz.prog 17 #[.agg #[.int .i64 m, .int .i64 h, .slice a R.length c], .agg (iv q), .int .i64 ev] w0 (Fr w0 (EZ m h q (R.map (·.xs)) ev) m h q R.length ev (P1 m h q (R.map (·.xs))) (R.length*Ae m h)):=by
 have hS:=St.start w0
 have hB0:=fun (w:World)(hx:Ai w0 w)=>KT w m h hm a c R hR (hP.ext hx) q hq
 obtain ⟨hpz,hqk⟩:=Kg h0
 obtain ⟨hok,hlen,hall⟩:=Ge hpz
 obtain ⟨q1,q2,q3⟩:=Dv hok
 rw [List.length_map] at hlen
 have hPE:EZ m h q (R.map (·.xs)) ev=if bE (Cn (LG (P1 m h q (R.map (·.xs))) ((R.map (·.xs)).length*Ae m h)))=0 then 0 else 5:=by
  unfold EZ;rw [if_pos h0,if_pos (by omega)]
 have hab:=Hc m h q hq (R.map (·.xs))
 have hbl:=NO m h q hq (R.map (·.xs))
 rw [List.length_map] at hPE hab hbl
 rw [h0] at hB0
 obtain ⟨N,hN⟩:∃N,R.length=N:=⟨_,rfl⟩
 rw [hN] at hB0 hPE hab hbl hlen⊢
 have hn1:N*Ae m h≤192:=by
  have:=Nat.mul_le_mul (show N≤3 by omega) q2
  omega
 obtain ⟨n,hn⟩:∃n,N*Ae m h=n:=⟨_,rfl⟩
 rw [hn] at hB0 hPE hab hbl hn1⊢
 obtain ⟨B,hB⟩:∃B,P1 m h q (R.map (·.xs))=B:=⟨_,rfl⟩
 rw [hB] at hB0 hPE hab hbl⊢
 have HB:Hid (∀w,Ai w0 w→Calls Tryz.prog 19 #[.agg #[.int .i64 m, .int .i64 h, .slice a N c], .agg (iv q)] w fun e w'=>∃(ao:Option Addr) (co:Nat),e= .returned (.tuple #[.slice ao n co, .int .i64 0])∧St w w' [own 26 64 ao n co (B.map (Value.int .i64))]):=fun w hx=>(hB0 w hx).mono fun e w' hh=>hh.2 rfl
 have HPE:=AD hPE
 have HAB:=AD hab
 have HBL:=AD hbl
 have HF0:=AD (Uw (l:=B) ev (show n≤400 by omega))
 have HSR:=AD (Wc ev hbl hab)
 have HN:=AD hN
 have hN3:N≤3:=by omega
 clear hB0 hPE hab hbl hP h0 hpz hqk hall hn hB hN q1 q2 q3 hlen hok hR
 by_cases hr:bE (Cn (LG B n))=0
 ·have HE:=AD (show EZ m h q (R.map (·.xs)) ev=0 by rw [HPE.out,if_pos hr])
  have HR:=AD hr
  clear hr HPE
  go_enter Tryz.func17,Tryz.ntmps17
  repeat' (first
   | (refine As 19 ?_);refine At AA Tryz.call19 (HB.out _ hS.1) ?_;rintro e w ⟨ao,co,rfl,hS2⟩;replace hS:=hS.call1 hS2;clear hS2;refine Ac ?_;go_step|refine X0 ?_|refine Iu ?_|refine H6 18 ?_ ?_<;>intro hB<;>(try exact AR)<;>go_step|refine Ei 21 ?_ ?_<;>intro hB<;>(try exact AR)<;>go_step|refine X6 ?_|refine H3 ?_|refine P7 3 ?_;clear hS;intro g3 w hS|refine Mw 4 ?_;clear hS;intro g4 w hS|refine YC 6 ?_;clear hS;intro g6 w hS|refine Us ?_|refine Jm ?_|refine AG ?_;go_step|fail)
  all_goals (try exact AR)
  repeat' (first
   | refine X4 ?_|refine AG ?_;go_step|fail)
  all_goals (try exact AR)
  refine AP [14] (fun w=>St w0 w [blk g3 [.int .i64 m, .int .i64 h, .slice a N c],arr g4 64 q]) AA ?_
  replace hS:=hS.drew
  focus
   refine BZ 0 BN (V.fieldAddr Fx rfl A7) ?_;go_step
   refine Y5 1 [12,14] ?_
   refine BZ 2 BN (V.fieldAddr Ke rfl A7) ?_;go_step
   refine Y5 3 [12,14] ?_
   refine BZ 4 BN (V.fieldAddr Fy rfl A7) ?_;go_step
   refine fR 5 [6,12,14] ?_
   refine BZ 6 BN (V.len Tryz.underlying22 rfl) ?_;go_step
   refine fX 7 [12,14] ?_
   refine AZ 8 ?_
   refine AZ 9 ?_
   refine AZ 10 ?_
   refine BM [11,13] AA (by simp) (.cons Aj AA ?_ (.cons Aj AA ?_ (.nil)))
   rotate_left 1
   focus
    refine bY ?_;clear hS;intro g10 w hS
    refine Av 11 ?_
    refine AY (f:=41) rfl Tryz.call41 (FZ _ ao n co B ev (by omega) (by omega) HAB.out (hS.sl AL)) ?_;rintro e w ⟨C1,S1,C2,S2,a1,a2,m1,k1,m2,k2,hC1,hC2,hm1,hm2,hb1,hb2,ht1,ht2,hM1,hM2,hN2,rfl,hS2⟩;replace hS:=Dt hS hS2;clear hS2;have HM1:=AD hM1;have HT1:=AD ht1;have HM2:=AD hM2;have HT2:=AD ht2;have HN2:=AD hN2;clear hM1 ht1 hM2 ht2 hN2;refine ⟨_,rfl,?_⟩
    refine ⟨fun _ _=>hS.sub AV,?_⟩
    refine AI ?_
    go_step
    refine BV 12 _ Aj AA AA AA Be (V.build (vs:=[(0, .int .i64 m),(1, .int .i64 h),(2, .int .i64 (N:Int)),(3, .agg (iv q)),(5, .int .i64 (ev:Int)),(4, .agg (AF [.ints C1, .val (.slice a1 m1 k1), .ints C2, .val (.slice a2 m2 k2)]).toArray)]) rfl (FN m h (N:Int) (ev:Int) q C1 C2 (.slice a1 m1 k1) (.slice a2 m2 k2) hq hC1 hC2)) AA ?_
    go_step
    refine Av 14 ?_
    refine bZ ?_;clear hS;intro w hS
    refine AE AA ?_ _
   rotate_right 1
   focus
    refine AY (f:=41) rfl Tryz.call41 (FZ _ ao n co B ev (by omega) (by omega) HAB.out (hS.sl AL)) ?_;rintro e w ⟨C1,S1,C2,S2,a1,a2,m1,k1,m2,k2,hC1,hC2,hm1,hm2,hb1,hb2,ht1,ht2,hM1,hM2,hN2,rfl,hS2⟩;replace hS:=Dt hS hS2;clear hS2;have HM1:=AD hM1;have HT1:=AD ht1;have HM2:=AD hM2;have HT2:=AD ht2;have HN2:=AD hN2;clear hM1 ht1 hM2 ht2 hN2;refine ⟨_,rfl,?_⟩
    refine ⟨fun _ _=>hS.sub AV,?_⟩
    refine AI ?_
    go_step
    refine BV 12 _ Aj AA AA AA Be (V.build (vs:=[(0, .int .i64 m),(1, .int .i64 h),(2, .int .i64 (N:Int)),(3, .agg (iv q)),(5, .int .i64 (ev:Int)),(4, .agg (AF [.ints C1, .val (.slice a1 m1 k1), .ints C2, .val (.slice a2 m2 k2)]).toArray)]) rfl (FN m h (N:Int) (ev:Int) q C1 C2 (.slice a1 m1 k1) (.slice a2 m2 k2) hq hC1 hC2)) AA ?_
    go_step
    refine Av 13 ?_
    refine bY ?_;clear hS;intro g10 w hS
    refine Av 14 ?_
    refine bZ ?_;clear hS;intro w hS
    refine AE AA ?_ _
  all_goals
   repeat' (first|(refine AG ?_;go_step)|fail)
   have hmk1:=HM1.out HF0.out
   have hmk2:=HM2.out (by rw [HSR.out];exact HR.out)
   have htb:D4 C1 S1 C2 S2=0:=by unfold D4;rw [if_pos HT1.out];exact HT2.out
   have hsc:=ZF hev htb (GO (show n≤400 by omega) HAB.out) (JC HBL.out (show n≤400 by omega) HAB.out hmk1 hmk2)
   obtain ⟨D,hD⟩:∃D,In (EE C1 S1 C2 S2 B (A5 n ev)) 0=D:=⟨_,rfl⟩
   rw [hD] at hsc
   have HSC:=AD hsc
   have HEN:Hid (Ud B n ev C1 S1 C2 S2 D):=⟨hC1,hC2,hmk1,hmk2,hD.symm⟩
   clear hmk1 hmk2 htb hsc hD
   repeat' (first
    | (refine As 42 ?_);refine At AA Tryz.call42 (GC _ C1 C2 S1 S2 a1 a2 m1 m2 k1 k2 hC1 hC2 (hS.sl AL) (hS.sl AL) (by omega) (by omega) ao n co B (by omega) (hS.sl AL) (ev:Int)) ?_;rintro e w ⟨ad,kd,nd,hnd,rfl,hS2⟩;rw [HSC.out] at hnd hS2⊢;replace hS:=hS.call1 hS2;clear hS2;have HND:=AD hnd;clear hnd;refine Ac ?_;go_step|refine X0 ?_|refine aW ?_|refine X6 ?_|refine aX ?_|refine X4 ?_|refine P0 ?_|refine Ug ?_;clear hS;intro w hS|refine AG ?_;go_step|fail)
   all_goals (try exact AR)
   repeat' (first
    | refine X8 ?_|refine P8 ?_|refine YD ?_;clear hS;intro w hS|refine AG ?_;go_step|fail)
   refine AK (xs:=[_,_]) rfl (.cons (AC.prt hS rfl (AO (n:=103) rfl) AL (by (repeat (first|exact Bx.nil|(apply Bx.ints;(case hn=>exact EC);(case h=>omega);(case hm=>rfl))|apply Bx.val)))) (.cons (AC.tmp rfl) (.nil))) (by simp) rfl ?_
   refine ⟨fun h=>absurd HE.out h,fun _=>⟨C1,S1,C2,S2,D,a1,a2,ad,m1,k1,m2,k2,nd,kd,by rw [Int.toNat_natCast];exact HEN.out,hm1,hm2,HND.out,rfl,hS.sub AV⟩⟩
 have HE:=AD (show EZ m h q (R.map (·.xs)) ev=5 by rw [HPE.out,if_neg hr])
 have HR:=AD hr
 clear hr HPE
 go_enter Tryz.func17,Tryz.ntmps17
 repeat' (first
  | (refine As 19 ?_);refine At AA Tryz.call19 (HB.out _ hS.1) ?_;rintro e w ⟨ao,co,rfl,hS2⟩;replace hS:=hS.call1 hS2;clear hS2;refine Ac ?_;go_step|refine X0 ?_|refine Iu ?_|refine H6 18 ?_ ?_<;>intro hB<;>(try exact AR)<;>go_step|refine Ei 21 ?_ ?_<;>intro hB<;>(try exact AR)<;>go_step|refine X6 ?_|refine H3 ?_|refine P7 3 ?_;clear hS;intro g3 w hS|refine Mw 4 ?_;clear hS;intro g4 w hS|refine YC 6 ?_;clear hS;intro g6 w hS|refine Us ?_|refine Jm ?_|refine AG ?_;go_step|fail)
 all_goals (try exact AR)
 repeat' (first
  | refine X4 ?_|refine AG ?_;go_step|fail)
 all_goals (try exact AR)
 refine AP [14] (fun w=>St w0 w [blk g3 [.int .i64 m, .int .i64 h, .slice a N c],arr g4 64 q]) AA ?_
 replace hS:=hS.drew
 focus
  refine BZ 0 BN (V.fieldAddr Fx rfl A7) ?_;go_step
  refine Y5 1 [12,14] ?_
  refine BZ 2 BN (V.fieldAddr Ke rfl A7) ?_;go_step
  refine Y5 3 [12,14] ?_
  refine BZ 4 BN (V.fieldAddr Fy rfl A7) ?_;go_step
  refine fR 5 [6,12,14] ?_
  refine BZ 6 BN (V.len Tryz.underlying22 rfl) ?_;go_step
  refine fX 7 [12,14] ?_
  refine AZ 8 ?_
  refine AZ 9 ?_
  refine AZ 10 ?_
  refine BM [11,13] AA (by simp) (.cons Aj AA ?_ (.cons Aj AA ?_ (.nil)))
  rotate_left 1
  focus
   refine bY ?_;clear hS;intro g10 w hS
   refine Av 11 ?_
   refine AY (f:=41) rfl Tryz.call41 (FZ _ ao n co B ev (by omega) (by omega) HAB.out (hS.sl AL)) ?_;rintro e w ⟨C1,S1,C2,S2,a1,a2,m1,k1,m2,k2,hC1,hC2,hm1,hm2,hb1,hb2,ht1,ht2,hM1,hM2,hN2,rfl,hS2⟩;replace hS:=Dt hS hS2;clear hS2;have HM1:=AD hM1;have HT1:=AD ht1;have HM2:=AD hM2;have HT2:=AD ht2;have HN2:=AD hN2;clear hM1 ht1 hM2 ht2 hN2;refine ⟨_,rfl,?_⟩
   refine ⟨fun _ _=>hS.sub AV,?_⟩
   refine AI ?_
   go_step
   refine BV 12 _ Aj AA AA AA Be (V.build (vs:=[(0, .int .i64 m),(1, .int .i64 h),(2, .int .i64 (N:Int)),(3, .agg (iv q)),(5, .int .i64 (ev:Int)),(4, .agg (AF [.ints C1, .val (.slice a1 m1 k1), .ints C2, .val (.slice a2 m2 k2)]).toArray)]) rfl (FN m h (N:Int) (ev:Int) q C1 C2 (.slice a1 m1 k1) (.slice a2 m2 k2) hq hC1 hC2)) AA ?_
   go_step
   refine Av 14 ?_
   refine bZ ?_;clear hS;intro w hS
   refine AE AA ?_ _
  rotate_right 1
  focus
   refine AY (f:=41) rfl Tryz.call41 (FZ _ ao n co B ev (by omega) (by omega) HAB.out (hS.sl AL)) ?_;rintro e w ⟨C1,S1,C2,S2,a1,a2,m1,k1,m2,k2,hC1,hC2,hm1,hm2,hb1,hb2,ht1,ht2,hM1,hM2,hN2,rfl,hS2⟩;replace hS:=Dt hS hS2;clear hS2;have HM1:=AD hM1;have HT1:=AD ht1;have HM2:=AD hM2;have HT2:=AD ht2;have HN2:=AD hN2;clear hM1 ht1 hM2 ht2 hN2;refine ⟨_,rfl,?_⟩
   refine ⟨fun _ _=>hS.sub AV,?_⟩
   refine AI ?_
   go_step
   refine BV 12 _ Aj AA AA AA Be (V.build (vs:=[(0, .int .i64 m),(1, .int .i64 h),(2, .int .i64 (N:Int)),(3, .agg (iv q)),(5, .int .i64 (ev:Int)),(4, .agg (AF [.ints C1, .val (.slice a1 m1 k1), .ints C2, .val (.slice a2 m2 k2)]).toArray)]) rfl (FN m h (N:Int) (ev:Int) q C1 C2 (.slice a1 m1 k1) (.slice a2 m2 k2) hq hC1 hC2)) AA ?_
   go_step
   refine Av 13 ?_
   refine bY ?_;clear hS;intro g10 w hS
   refine Av 14 ?_
   refine bZ ?_;clear hS;intro w hS
   refine AE AA ?_ _
 all_goals
  repeat' (first|(refine AG ?_;go_step)|fail)
  obtain rfl:S2=[]:=HN2.out (by rw [HSR.out];exact HR.out)
  have hsc:=Tz HBL.out (show n≤400 by omega) hev HAB.out HT1.out HT2.out (fun e=>HR.out (by rw [e];exact MI (by simp)))
  have HSC:=AD hsc
  clear hsc
  repeat' (first
   | (refine As 42 ?_);refine At AA Tryz.call42 (GC _ C1 C2 S1 [] a1 a2 m1 m2 k1 k2 hC1 hC2 (hS.sl AL) (hS.sl AL) (by omega) (by omega) ao n co B (by omega) (hS.sl AL) (ev:Int)) ?_;rintro e w ⟨ad,kd,nd,hnd,rfl,hS2⟩;rw [HSC.out] at hnd hS2⊢;replace hS:=hS.call1 hS2;clear hS2;have HND:=AD hnd;clear hnd;refine Ac ?_;go_step|(refine AQ 55 ?_);refine An AA (V.build (vs:=[]) rfl IB) ?_;go_step|refine X0 ?_|refine aW ?_|refine X6 ?_|refine aX ?_|refine X4 ?_|refine P0 ?_|refine Ug ?_;clear hS;intro w hS|refine YD ?_;clear hS;intro w hS|refine AG ?_;go_step|fail)
  all_goals (try exact AR)
  refine AK (xs:=[_,_]) rfl (.cons (AC.prt hS rfl (AO (n:=103) rfl) AL (by (repeat (first|exact Bx.nil|(apply Bx.ints;(case hn=>exact EC);(case h=>omega);(case hm=>rfl))|apply Bx.val)))) (.cons (AC.tmp rfl) (.nil))) (by simp) rfl ?_
  exact ⟨fun _=>⟨by rw [HE.out];rfl,hS.1⟩,fun h=>by rw [HE.out] at h;cases h⟩
end Go.Proofs.YtohacgmhmbijmaaGreatDoor
